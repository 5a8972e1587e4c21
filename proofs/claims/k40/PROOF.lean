import PyProof.Rows.All
import Wide.All
import OpenK.AllK
import Wide.FinOn
import KE.KStateDown
import Lean
import HandS.ForMost
import HandS.ForExc
import HandS.More
import HandS.Defaults
import HandS.Star
import HandS.Property
import HandS.ClsMeth
import HandS.Codes
import HandS.Walk
import KE.GoesMore
import KE.GoesEnum
import HandS.Evl
import HandS.Flow
import HandS.Style
import HandS.TupAny
import HandS.IsInst
import HandS.Replace
import HandS.ExcValue
import HandS.SlotsOwn
import HandS.StrMore
import HandS.Wide
import HandS.MakeKw
import HandS.Head0
import HandS.Head1
import HandS.Head2
import HandS.HeadEnd
import HandS.HeadHook1
import HandS.HeadHook2
import HandS.HeadHook3
import HandS.HeadHook4
import PySem.Challenge.RW_bucketline_k40_encoded_lines
set_option Elab.async false
set_option linter.all false
set_option maxRecDepth 100000
set_option maxHeartbeats 4000000
/-! ### plain lemmas -/
namespace Bk
open PySem PySem.Spec PyProof.Rows L2
def ivs (l : List Int) : List V := l.map V.int
theorem ivs_get {l : List Int} {i : Nat} {x : V} (hi : (ivs l)[i]? = some x) : ∃ u, l[i]? = some u ∧ x = V.int u := by
  unfold ivs at hi
  rw [List.getElem?_map] at hi
  cases e : l[i]? with
  | none => rw [e] at hi; cases hi
  | some u => rw [e] at hi; exact ⟨u, rfl, (Option.some.inj hi).symm⟩
/-- a source of numbers -/
def Src (l : List Int) : Prop := ∃ a b r, l = a :: b :: r ∧ 0 ≤ a ∧ 0 ≤ b ∧ ∀ x ∈ r, (0 : Int) ≤ x
theorem iteD {c : Prop} [Decidable c] {A B : Prop} (h1 : c → A) (h2 : ¬ c → B) : if decide c = true then A else B := by
  by_cases h : c
  · rw [decide_eq_true h]; exact iteT (h1 h)
  · rw [decide_eq_false h]; exact iteF (h2 h)
theorem vint {i j : Int} : V.int i = V.int j ↔ i = j := ⟨fun h => V.int.inj h, fun h => by rw [h]⟩
theorem at_0 {v : V} {r : List V} : atI (v :: r) 0 = some v := atI_nat (j := 0) rfl
theorem at_1 {u v : V} {r : List V} : atI (u :: v :: r) 1 = some v := atI_nat (j := 1) rfl
theorem ix_0 {v : V} {r : List V} : ixN (v :: r).length 0 = some 0 := Evl.ixN_nat (j := 0) (by simp)
theorem ix_1 {u v : V} {r : List V} : ixN (u :: v :: r).length 1 = some 1 := Evl.ixN_nat (j := 1) (by simp)
theorem sq_2 {t u v : V} {r : List V} : seqIndex? 2 (t :: u :: v :: r).length = some 2 := (ixN_seq (Evl.ixN_nat (j := 2) (by simp))).1
theorem vstr {i j : Str} : V.str i = V.str j ↔ i = j := ⟨fun h => V.str.inj h, fun h => by rw [h]⟩
theorem iteN {c : Prop} [Decidable c] {A B : Prop} (h1 : ¬ c → A) (h2 : c → B) : if (!decide c) = true then A else B := by
  by_cases h : c
  · rw [decide_eq_true h]; exact iteF (h2 h)
  · rw [decide_eq_false h]; exact iteT (h1 h)
theorem iteB {b : Bool} {A B : Prop} (h1 : b = true → A) (h2 : b = false → B) : if b = true then A else B := by
  cases b
  · exact iteF (h2 rfl)
  · exact iteT (h1 rfl)
theorem same_new {H : Hp} {p : Addr} {o : HO} (h : H p = none) : Same H (upd H p o) := Evl.Ex.new h
theorem same_mut {H H' : Hp} {p : Addr} {o : HO} (e : Same H H') (h : H p = none) : Same H (upd H' p o) := Evl.Ex.mut e h
end Bk
namespace L2
open PySem PySem.Spec PyProof.Rows
theorem Same.seqT {K : PySem.W.Frag} {H H' : Hp} {a : Addr} {xs : List V} (e : Same H H') (h : SqT K H a xs) : SqT K H' a xs := Evl.ex_t e h
end L2
namespace Bk
open PySem PySem.Spec PyProof.Rows L2
theorem SqT.of' {K : PySem.W.Frag} {H : Hp} {a : Addr} {xs : List V} (h : H a = some (.tup xs)) : SqT K H a xs := Or.inl (Or.inl h)
theorem ivs_len {l : List Int} : (ivs l).length = l.length := List.length_map ..
theorem ivs_at {l : List Int} {i : Nat} {u : Int} (h : l[i]? = some u) : (ivs l)[i]? = some (.int u) := by
  unfold ivs
  rw [List.getElem?_map, h]
  rfl
theorem ivs_app {l m : List Int} : ivs (l ++ m) = ivs l ++ ivs m := List.map_append ..
theorem sz {n : Nat} (h : n ≤ 100000) : n ≤ sizeLine := Evl.sz_of h
theorem szl {n : Nat} (h : n < 100000) : n < sizeLine := Evl.sz_lt h
/-! deep data -/
mutual
theorem dp_same {K : PySem.W.Frag} {H H' : Hp} (e : Same H H') : ∀ (d : PyData) (v : V), Dp K H v d → Dp K H' v d
  | .none, _, h => by cases h; exact .non
  | .bool b, _, h => by cases h; exact .bl _
  | .int i, _, h => by cases h; exact .int _
  | .str x, _, h => by cases h; exact .str _
  | .list ds, _, h => by
    cases h with
    | lst hs ha => exact .lst (Same.seq e hs) (dps_same e ds _ ha)
  | .tuple ds, _, h => by
    cases h with
    | tup hs ha => exact .tup (Same.seqT e hs) (dps_same e ds _ ha)
  | .dict kvs, _, h => by cases h
theorem dps_same {K : PySem.W.Frag} {H H' : Hp} (e : Same H H') : ∀ (ds : List PyData) (vs : List V), DpAll K H vs ds → DpAll K H' vs ds
  | [], _, h => by cases h; exact .nil
  | d :: ds, _, h => by
    cases h with
    | cons h1 h2 => exact .cons (dp_same e d _ h1) (dps_same e ds _ h2)
end
end Bk
namespace L2
open PySem PySem.Spec PyProof.Rows
theorem Dp.same {K : PySem.W.Frag} {H H' : Hp} {v : V} {d : PyData} (h : Dp K H v d) (e : Same H H') : Dp K H' v d := Bk.dp_same e d v h
theorem DpAll.same {K : PySem.W.Frag} {H H' : Hp} {vs : List V} {ds : List PyData} (h : DpAll K H vs ds) (e : Same H H') : DpAll K H' vs ds := Bk.dps_same e ds vs h
section
variable {K : PySem.W.Frag} {H : Hp}
theorem DpAll.len : ∀ {vs : List V} {ds : List PyData}, DpAll K H vs ds → vs.length = ds.length
  | _, _, .nil => rfl
  | _, _, .cons _ t => congrArg Nat.succ (DpAll.len t)
theorem DpAll.get : ∀ {vs : List V} {ds : List PyData} {i : Nat} {v : V}, DpAll K H vs ds → vs[i]? = some v → ∃ d, ds[i]? = some d ∧ Dp K H v d
  | _, _, i, _, .nil, e => by simp at e
  | _, _, 0, _, .cons r _, e => by simp at e; subst e; exact ⟨_, rfl, r⟩
  | _, _, i + 1, v, .cons _ t, e => by
    obtain ⟨d, h1, h2⟩ := DpAll.get (i := i) (v := v) t (by simpa using e)
    exact ⟨d, by simpa using h1, h2⟩
theorem DpAll.at : ∀ {vs : List V} {ds : List PyData} {i : Nat} {d : PyData}, DpAll K H vs ds → ds[i]? = some d → ∃ v, vs[i]? = some v ∧ Dp K H v d
  | _, _, i, _, .nil, e => by simp at e
  | _, _, 0, _, .cons r _, e => by simp at e; subst e; exact ⟨_, rfl, r⟩
  | _, _, i + 1, v, .cons _ t, e => by
    obtain ⟨d, h1, h2⟩ := DpAll.at (i := i) t (by simpa using e)
    exact ⟨d, by simpa using h1, h2⟩
theorem DpAll.app : ∀ {vs ws : List V} {ds es : List PyData}, DpAll K H vs ds → DpAll K H ws es → DpAll K H (vs ++ ws) (ds ++ es)
  | _, _, _, _, .nil, s => s
  | _, _, _, _, .cons r t, s => .cons r (DpAll.app t s)
theorem DpAll.take : ∀ {vs : List V} {ds : List PyData} (n : Nat), DpAll K H vs ds → DpAll K H (vs.take n) (ds.take n)
  | _, _, 0, _ => .nil
  | _, _, _ + 1, .nil => .nil
  | _, _, n + 1, .cons r t => .cons r (DpAll.take n t)
theorem DpAll.drop : ∀ {vs : List V} {ds : List PyData} (n : Nat), DpAll K H vs ds → DpAll K H (vs.drop n) (ds.drop n)
  | _, _, 0, r => r
  | _, _, _ + 1, .nil => .nil
  | _, _, n + 1, .cons _ t => DpAll.drop n t
end
end L2
namespace Bk
open PySem PySem.Spec PyProof.Rows L2
section
variable {K : PySem.W.Frag} {H : Hp}
theorem dps_ints : ∀ l : List Int, DpAll K H (ivs l) (l.map PyData.int)
  | [] => .nil
  | i :: l => .cons (.int i) (dps_ints l)
theorem dps_strs : ∀ l : List Str, DpAll K H (l.map V.str) (l.map PyData.str)
  | [] => .nil
  | i :: l => .cons (.str i) (dps_strs l)
theorem dps_ints_inv : ∀ {l : List Int} {vs : List V}, DpAll K H vs (l.map PyData.int) → vs = ivs l
  | [], _, .nil => rfl
  | i :: l, _, .cons h t => by
    cases h
    rw [dps_ints_inv t]
    rfl
theorem dp_lst {v : V} {ds : List PyData} (h : Dp K H v (.list ds)) : ∃ a xs, v = .ref a ∧ SqL K H a xs ∧ DpAll K H xs ds := by
  cases h with
  | lst hs ha => exact ⟨_, _, rfl, hs, ha⟩
theorem dp_tup {v : V} {ds : List PyData} (h : Dp K H v (.tuple ds)) : ∃ a xs, v = .ref a ∧ SqT K H a xs ∧ DpAll K H xs ds := by
  cases h with
  | tup hs ha => exact ⟨_, _, rfl, hs, ha⟩
theorem dp_int {v : V} {i : Int} (h : Dp K H v (.int i)) : v = .int i := by cases h; rfl
theorem dp_str {v : V} {i : Str} (h : Dp K H v (.str i)) : v = .str i := by cases h; rfl
theorem dp_bl {v : V} {i : Bool} (h : Dp K H v (.bool i)) : v = .bl i := by cases h; rfl
theorem dp_non {v : V} (h : Dp K H v .none) : v = .non := by cases h; rfl
end
theorem dp_mk_lst {K : PySem.W.Frag} {H : Hp} {a : Addr} {xs : List V} {ds : List PyData} (h : H a = some (.lst xs)) (hs : DpAll K H xs ds) : Dp K H (.ref a) (.list ds) := .lst (SqL.of h) hs
theorem dp_mk_tup {K : PySem.W.Frag} {H : Hp} {a : Addr} {xs : List V} {ds : List PyData} (h : H a = some (.tup xs)) (hs : DpAll K H xs ds) : Dp K H (.ref a) (.tuple ds) := .tup (SqT.of' h) hs
theorem cut_to {xs : List V} {i : Nat} (h : i ≤ xs.length) : cutV xs none (some (i : Int)) = xs.take i := by
  unfold cutV
  rw [HT.sIx_none, HT.sIx_nat, Nat.min_eq_left h]
  simp
theorem cut_from {xs : List V} {i : Nat} (h : i ≤ xs.length) : cutV xs (some (i : Int)) none = xs.drop i := by
  unfold cutV
  rw [HT.sIx_none, HT.sIx_nat, Nat.min_eq_left h]
  rw [List.take_of_length_le]
  rw [List.length_drop]
  exact Nat.le_refl _
theorem cut_ft {xs : List V} {i j : Nat} (h : i ≤ xs.length) (h2 : j ≤ xs.length) : cutV xs (some (i : Int)) (some (j : Int)) = (xs.drop i).take (j - i) := by
  unfold cutV
  rw [HT.sIx_nat, HT.sIx_nat, Nat.min_eq_left h, Nat.min_eq_left h2]
theorem delH_upd {H : Hp} {a : Addr} {o : HO} : delH (upd H a o) a = delH H a := by
  funext b
  unfold delH upd
  split <;> rfl
theorem same_del {H : Hp} {a : Addr} : Same (delH H a) H := fun b o h => by
  by_cases e : b = a
  · rw [e, delH_same] at h; cases h
  · rw [delH_ne e] at h; exact h
theorem upd_swap {G : Hp} {D q : Addr} {x y z : HO} (h : q ≠ D) : upd (upd (upd G D x) q y) D z = upd (upd G q y) D z := by
  funext b
  unfold upd
  by_cases e : b = D
  · simp [e]
  · simp [e]
theorem upd_comm {G : Hp} {D q : Addr} {x y : HO} (h : q ≠ D) : upd (upd G D x) q y = upd (upd G q y) D x := by
  funext b
  unfold upd
  by_cases e : b = D
  · subst e
    simp [Ne.symm h]
  · simp [e]
theorem del_mono {H H' : Hp} {a : Addr} (e : Same H H') : Same (delH H a) (delH H' a) := fun b o h => by
  by_cases z : b = a
  · rw [z, delH_same] at h; cases h
  · rw [delH_ne z] at h ⊢; exact e b o h
theorem del_new {H : Hp} {a t : Addr} {o : HO} (h : t ≠ a) (ht : H t = none) : Same (delH H a) (delH (upd H t o) a) := del_mono (same_new ht)
/-- a list of one's own at p: its items' data stand beside it -/
def Own (K : PySem.W.Frag) (H : Hp) (p : Addr) (ds : List PyData) : Prop := ∃ vs, H p = some (.lst vs) ∧ DpAll K (delH H p) vs ds
section
variable {K : PySem.W.Frag} {H H' : Hp} {p : Addr} {ds : List PyData}
theorem Own.same (h : Own K H p ds) (e : Same H H') : Own K H' p ds := by
  obtain ⟨vs, h1, h2⟩ := h
  exact ⟨vs, e _ _ h1, h2.same (del_mono e)⟩
theorem Own.dp (h : Own K H p ds) : Dp K H (.ref p) (.list ds) := by
  obtain ⟨vs, h1, h2⟩ := h
  exact .lst (SqL.of h1) (h2.same same_del)
theorem Own.nil (h : H p = some (.lst [])) : Own K H p [] := ⟨[], h, .nil⟩
theorem Own.push {vs : List V} {v : V} {d : PyData} (h2 : DpAll K (delH H p) vs ds) (hv : Dp K (delH H p) v d) : Own K (upd H p (.lst (vs ++ [v]))) p (ds ++ [d]) :=
  ⟨_, upd_same, by rw [delH_upd]; exact h2.app (.cons hv .nil)⟩
end
/-- what stood before, but for the object at a -/
theorem same_upd {G H : Hp} {a : Addr} {o : HO} (e : Same G H) (ha : G a = none) : Same G (upd H a o) := same_mut e ha
theorem del_upd_same {G H : Hp} {a : Addr} {o : HO} (e : Same (delH G a) H) : Same (delH G a) (upd H a o) := same_mut e delH_same
theorem del_upd_ne {H : Hp} {p d : Addr} {x : HO} (h : p ≠ d) : delH (upd H p x) d = upd (delH H d) p x := by
  funext b
  unfold delH upd
  by_cases e : b = d
  · subst e
    simp [Ne.symm h]
  · simp [e]
end Bk
/-! ### rules of my own over the hand layer -/
namespace Bk
open PySem PySem.Spec PyProof.Rows L2
/-! enumerate of a tuple -/
set_option maxHeartbeats 1000000 in
theorem meets_enumT {v : Value} {o : Obj} {Hh : Heap → Prop} (B : Begins v o Hh) :
    Meets (Builtin.«enumerate.__new__» ⟨[.type "enumerate", v], []⟩) (fun _ R s => Hh s.heap ∧
      R (.ok (.ret (.ref (s.heap.push o).objs.size))) { s with heap := (s.heap.push o).push { cls := .type "enumerate", data := .fields #[.none, .bool false, .ref s.heap.objs.size, rawInt 0, .none, .none] } }) :=
  .of_wp fun prog w A R s h => by
    obtain ⟨hh0, gg, d, tk0, os0⟩ := s; obtain ⟨hB, h⟩ := h
    have subE := sub_enumerate
    have itV : ∀ {A' : Around} {E : Value → Shared → Prop} {Q : Value → Shared → Prop}, Q (.ref hh0.objs.size) ⟨hh0.push o, gg, d, tk0, os0⟩ → wpAny (model prog w) A' (pyIter v) Q E ⟨hh0, gg, d, tk0, os0⟩ :=
      fun q => B.iter prog w _ _ ⟨hh0, gg, d, tk0, os0⟩ _ hB q
    wp_walk using itV
    refine wpAny_stack_any fun stt => wpAny_pure ?_
    split
    · rename_i c _ _ _ _ _
      cases (c == Value.type "enumerate")
      · wp_walk using itV
        exact ⟨_, rfl, h⟩
      · wp_walk using itV
        exact ⟨_, rfl, h⟩
    · wp_walk using itV
      exact ⟨_, rfl, h⟩
theorem call_enumT {prog : Program} {w : World} {A : Around} {E : Value → Shared → Prop} {s : Shared} {v : Value} {o : Obj} {Hh : Heap → Prop} {Q : Value → Shared → Prop} (B : Begins v o Hh) (hB : Hh s.heap)
    (h : ∀ h', IsEnum h' (s.heap.objs.size + 1) s.heap.objs.size 0 .none → h'.get? s.heap.objs.size = some o → h'.objs.size = s.heap.objs.size + 2 →
      (∀ b o, s.heap.get? b = some o → h'.get? b = some o) → Q (.ref (s.heap.objs.size + 1)) { s with heap := h' }) :
    wpAny (model prog w) A (call (.type "enumerate") [v]) Q E s := by
  refine callType_new F.called_enumerate (by decide) (F.typeCall_enumerate_1 _) (F.newCall_enumerate_1 _) (fun obj => F.args_object_init_2 obj _) F.entry_enumerate_new
    (meets_enumT B) ⟨hB, ?_⟩
  have hz0 : (s.heap.push o).objs.size = s.heap.objs.size + 1 := Heap.size_push ..
  show _ ∧ _
  rw [hz0]
  have hen : IsEnum ((s.heap.push o).push { cls := .type "enumerate", data := .fields #[.none, .bool false, .ref s.heap.objs.size, rawInt 0, .none, .none] }) (s.heap.objs.size + 1) s.heap.objs.size 0 .none := by
    have := Heap.get?_push_size (s.heap.push o) (o := { cls := .type "enumerate", data := .fields #[.none, .bool false, .ref s.heap.objs.size, rawInt 0, .none, .none] }) rfl
    rw [hz0] at this; exact this
  refine ⟨⟨_, hen, rfl⟩, h _ hen (Heap.get?_push_of_some _ (Heap.get?_push_size _ B.free)) (by rw [Heap.size_push, hz0]) fun b o x => Heap.get?_push_of_some _ (Heap.get?_push_of_some _ x)⟩
/-- the tuple at a, each item in a fresh pair -/
def IteT (K : PySem.W.Frag) (a : Addr) : It :=
  ⟨fun i H => ∃ (ys0 : List V) (x : V), SqT K H a ys0 ∧ ys0[i]? = some x, fun i H v H' => ∃ T x, v = .ref T ∧ H T = none ∧ H' = upd H T (.tup [.int (i : Nat), x]) ∧ ∀ ys0, SqT K H a ys0 → ys0[i]? = some x, fun i H => ∃ ys0 : List V, SqT K H a ys0 ∧ ys0.length = i⟩
theorem turn_enumT {P : Program} {w : World} {K : PySem.W.Frag} {elts : List Expr} {kk : Nat} {tpos : Pos} (a e it : Addr) (hai : a ≠ it) (hea : e ≠ a) :
    Turn P w K (.Tuple elts kk tpos) (IteT K a) [e, it] e (fun i h => (∃ was, IsEnum h e it ((i : Nat) : Int) was) ∧ h.IsTupleIter it a i ∧ e ≠ it) where
  mem := by simp
  obj := fun i h stt b hb => by
    obtain ⟨⟨was, hen⟩, ⟨o, ho, hc, hd⟩, _⟩ := stt
    have e' : b = e ∨ b = it := by simpa using hb
    rcases e' with z | z
    · rw [z]; exact ⟨_, hen, fun v q => nomatch q⟩
    · rw [z]; exact ⟨o, ho, fun v q => by rw [hd] at q; cases q⟩
  keep := fun i h h' stt k => let ⟨⟨was, hen⟩, hi, nEI⟩ := stt; ⟨⟨was, k e (by simp) _ hen⟩, hi.at fun o q => k it (by simp) o q, nEI⟩
  item := by
    intro X hP hw hK hc i pins s σ H E I hf stt hg
    subst hP hw hK
    obtain ⟨⟨was, hen⟩, hti, nEI⟩ := stt
    obtain ⟨ys0, x, hsq, hxx⟩ := hg
    obtain ⟨itms, rvs, p, hz0⟩ := I.tuple hsq
    obtain ⟨u, huu, rvu⟩ := rvs.get hxx
    have ltE : e < s.heap.objs.size := Heap.lt_size hen
    have ltI : it < s.heap.objs.size := by obtain ⟨_, q, _⟩ := hti; exact Heap.lt_size q
    have hh : X.A.in1.handled = none := I.ok.hd hc
    have ltA : i < itms.toArray.size := by
      rw [List.size_toArray]
      exact (List.getElem?_eq_some_iff.mp huu).1
    refine wpAny_pyNext_enum_itemD (Draws.tuple hh it a hai itms.toArray) hen ⟨hti, p⟩ ltA nEI (by simp [nEI, hea]) fun y h' tk0 hy ho hit' hT hsz0 hkk => ?_
    have ey : y = u := by
      have z : itms.toArray[i]? = some u := by simpa using huu
      rw [z] at hy
      exact (Option.some.inj hy).symm
    subst ey
    refine ⟨_, rfl, wpAny_letOwnedTupleGo_enum (s := { s with heap := h', toks := tk0 + 1 }) ho fun h'' he' sbb => ?_⟩
    have hTT : h''.get? s.heap.objs.size = some { cls := .type "tuple", data := .seq #[.int i tk0, y] } := (sbb.2 _ (Nat.ne_of_gt ltE)).trans hT
    have fresh : ObjOk X.prog X.w (upd H s.heap.objs.size (.tup [.int (i : Nat), x])) h'' s.heap.objs.size (.tup [.int (i : Nat), x]) :=
      ⟨by show 2 ≤ sizeLine; decide, [.int i tk0, y], .cons ⟨_, rfl⟩ (.cons rvu .nil), ⟨_, hTT, rfl, _, rfl⟩⟩
    have J1 : Inv X pins σ (upd H s.heap.objs.size (.tup [.int (i : Nat), x])) { s with heap := h'', toks := tk0 + 1 } :=
      I.turnedNew (ch := [e, it]) (fun b ob hb q => (sbb.2 b (fun z => hb (by simp [z]))).trans (hkk b ob (fun z => hb (by simp [z])) (fun z => hb (by simp [z])) q)) hf (Nat.le_refl _) fresh
    refine ⟨.ref s.heap.objs.size, _, J1, rfl, ⟨_, x, rfl, I.hok.fresh (Nat.le_refl _), rfl, fun ys hy' => by rw [I.tuple_inj hy' hsq]; exact hxx⟩, ⟨⟨y, ?_⟩, hit'.1.at fun o q => (sbb.2 it (Ne.symm nEI)).trans q, nEI⟩, fun b hb => ?_⟩
    · have ei1 : ((i + 1 : Nat) : Int) = (i : Int) + 1 := by omega
      rw [ei1]; exact he'
    · have hb' : b < s.heap.objs.size := by
        have e' : b = e ∨ b = it := by simpa using hb
        rcases e' with z | z
        · rw [z]; exact ltE
        · rw [z]; exact ltI
      rw [upd_ne (Nat.ne_of_lt hb')]
      exact (hf b hb).1
  done := by
    intro X hP hw hK hc i pins s σ H E I hf stt hg
    subst hP hw hK
    obtain ⟨⟨was, hen⟩, hti, nEI⟩ := stt
    obtain ⟨ys0, hsq, hxx⟩ := hg
    obtain ⟨itms, rvs, p, hz0⟩ := I.tuple hsq
    obtain ⟨f0, f1, f2, f3, f4, f5⟩ := hf it (by simp)
    have hl := rvs.length
    have hi : itms.toArray.size = i := by
      rw [List.size_toArray, ← hl]
      exact hxx
    subst hi
    have hh : X.A.in1.handled = none := I.ok.hd hc
    exact wpAny_pyNext_enum_endD (Draws.tuple hh it a hai itms.toArray) hen ⟨hti, p⟩ fun h' eb => ⟨rfl, I.turned (t' := s.toks) (fun b o hb q => eb b o hb q) f0 f1 f3 f4 f5⟩
  self := fun A i s Q E stt h => let ⟨⟨_, hen⟩, _⟩ := stt; wpAny_pyIter_enum hen h
def iEnumT (K : PySem.W.Frag) (ta : TA) : TI := fun σ H R => ta σ H fun vs H1 => ∃ a ys0, vs = [.ref a] ∧ SqT K H1 a ys0 ∧ R (IteT K a) H1
theorem pi_enumT {X : Cx} {e : Expr} {ta : TA} {p pos tpos : Pos} {elts : List Expr} {kk : Nat} (hg : Gl X "enumerate") (hm : X.mg "enumerate" = none) (ha : PA X [e] ta) (hs : starEach [e] X.env = [(false, eval e X.env)] := by rfl) :
    PI X (.Tuple elts kk tpos) (.Call (.Name "enumerate" p) [e] [] pos) (iEnumT X.K ta) := by
  refine ⟨fun pins s σ H R I h => ?_⟩
  refine Call_ (ld_blt I hg hm boot_enumerate (PyProof.Rows.callWith_type1 (thn (ha.run pos pins s σ H _ I h) fun us s1 ⟨vs, H1, J1, r1, itV⟩ => ?_) hs rfl))
  obtain ⟨a, ys0, ex, hsq, q⟩ := itV
  subst ex
  cases r1 with
  | cons r rr =>
    cases rr
    cases r
    obtain ⟨itms, rvs, p', hz0⟩ := J1.tuple hsq
    have ltA : a < s1.heap.objs.size := by obtain ⟨_, z, _⟩ := p'; exact Heap.lt_size z
    refine call_enumT (begins_tuple a itms.toArray) p' fun h' hen hti hsz0 hkk => wpAny_pyIter_enum hen ?_
    have J2 : Inv X pins σ H1 { s1 with heap := h' } := J1.kept (t' := s1.toks) hkk
    refine ⟨s1.heap.objs.size + 1, [s1.heap.objs.size + 1, s1.heap.objs.size], _, _, H1, rfl, J2, turn_enumT a (s1.heap.objs.size + 1) s1.heap.objs.size (Nat.ne_of_lt ltA) (Nat.ne_of_gt (Nat.lt_succ_of_lt ltA)), ⟨⟨.none, hen⟩, ⟨_, hti, rfl, rfl⟩, Nat.succ_ne_self _⟩, fun b hb => ?_, q⟩
    have e' : b = s1.heap.objs.size + 1 ∨ b = s1.heap.objs.size := by simpa using hb
    have leS : s1.heap.objs.size ≤ b := by
      rcases e' with z | z
      · rw [z]; exact Nat.le_add_right _ _
      · rw [z]; exact Nat.le_refl _
    exact J1.fpOk leS (J1.hok.fresh leS)
theorem walk_enumT {K : PySem.W.Frag} {a : Addr} {ys0 : List V} : Walk (IteT K a) ys0.length (fun H => SqT K H a ys0) (YPair (fun i => some (.int (i : Nat))) (fun i => ys0[i]?)) := by
  refine ⟨fun i _ hi q => ⟨ys0, ys0[i], q, by simp [hi]⟩, fun _ q => ⟨ys0, q, rfl⟩, fun i H v H' _ q y => ?_⟩
  obtain ⟨T, x, hB, h2, h3, h4⟩ := y
  exact ⟨T, .int (i : Nat), x, hB, h2, h3, rfl, h4 ys0 q⟩

/-! C(*e) -/
section
variable {X : Cx} {CX : CXT} {k : Nat} {f C : Addr} {sp : Sp} {E : XK} {x : Str} {e : Expr} {te : TE} {p sp_ pos : Pos}
def tMakeS (K : PySem.W.Frag) (C : Addr) (sp : Sp) (E : XK) (te : TE) : TE := fun σ H Q => te σ H fun y H1 => ∃ a xs, y = V.ref a ∧ (SqT K H1 a xs ∨ SqL K H1 a xs) ∧
  ∀ x dx, H1 x = Option.none → H1 dx = Option.none → dx ≠ x → sp (V.ref x :: xs) (upd (upd H1 dx (.own x)) x (.ins C dx [])) (fun v H2 => v = .non ∧ Q (.ref x) H2) E
theorem pe_makeS (M : Mk X.K C f) (F : FnR X.prog X.w X.K X.mg X.base CX k f sp) (hr : Room (k + 1) X.A) (hg : Gl X x) (hm : X.mg x = some (.ref C)) (hx : Passes CX X E) (he : PE X e te) (hd : (x == ("__debug__" : Str)) = false := by decide)
    (hst : starEach [.Starred e sp_] X.env = [(true, eval e X.env)] := by rfl) :
    PE X (.Call (.Name x p) [.Starred e sp_] [] pos) (tMakeS X.K C sp E te) := by
  refine ⟨fun pins s σ H Q I h => ?_⟩
  refine wpAny_Call_Name_kw (ld_glob I hg hm ?_ hd)
  refine PySem.W.callWith_S (h₀ := X.base) I.ok.mod.kin M.kp (thn (he.run pins s σ H _ I h) fun v s1 ⟨y, H1, I1, ry, a, xs, ey, hxs, q⟩ => ?_) hst
  subst ey
  obtain rfl : v = Value.ref a := ry
  exact StX.star_any I1 hxs fun us s2 I2 rv => ⟨I2.kIn, StX.run_makeR M F hr hx I2 rv q⟩
end

/-! len of an instance -/
section
variable {X : Cx} {CX : CXT} {n : Nat} {C g : Addr} {sp : Sp} {E : XK}
def rLenO (C : Addr) (sp : Sp) (E : XK) : List V → Hp → VK → Prop := fun xs H Q => ∃ a dx fs, xs = [V.ref a] ∧ H a = some (.ins C dx fs) ∧ sp [.ref a] H (fun z H' => ∃ i : Int, z = .int i ∧ 0 ≤ i ∧ i < 2 ^ 63 ∧ Q (.int i) H') E
theorem call_lenO (hs : PySem.W.findIn X.K (.ref C) "__len__" = some (some (.ref g))) (hf : PySem.W.isFn X.K (.ref g) = true) (F : FnR X.prog X.w X.K X.mg X.base CX n g sp) (hr : Room (n + 1) X.A) (hx : Passes CX X E) : CallR X (.builtin "len") (rLenO C sp E) := by
  intro pins s σ H xs us Q I r h
  obtain ⟨a, dx, fs, rfl, hi, q⟩ := h
  obtain ⟨u, rfl, ru⟩ := r.one
  cases (show u = Value.ref a from ru)
  obtain ⟨mA, O, _⟩ := ins_get I.hok hi
  obtain ⟨od, J, _⟩ := O.look
  obtain ⟨m, hF⟩ := I.fr
  refine PySem.W.len_K hF I.ok.mod.kin J hs hf (wpAny_mono (wpAny_call (SlX.run_at (us := [.ref a]) (ws := [.ref a]) F hr.in1 I.env0.in1 hx I (.cons rfl .nil) q)) (fun w s' z => ?_) fun _ _ x => x)
  obtain ⟨z', H', I', rz, i, ei, h0, h1, qz⟩ := z
  subst ei
  obtain ⟨t, e⟩ := (show ∃ t, w = Value.int i t from rz)
  cases e
  exact ⟨⟨h0, h1⟩, .int i, H', I'.tok _, ⟨_, rfl⟩, qz⟩
end

/-! a mutable list set aside while an expression runs that does not touch it -/
def tFr (t : TE) : TE := fun σ H Q => ∃ d l, H d = some (.lst l) ∧ t σ (delH H d) (fun v G => G d = none → Q v (upd G d (.lst l)))
theorem Inv.aside {X : Cx} {pins : List (Addr × Obj)} {σ : L2.St} {H : Hp} {s : Shared} {d : Addr} {l : List V} (I : Inv X pins σ H s) (hd : H d = some (.lst l)) :
    ∃ o, s.heap.get? d = some o ∧ Inv X (pins ++ [(d, o)]) σ (delH H d) s ∧
      ∀ H' s', Inv X (pins ++ [(d, o)]) σ H' s' → H' d = none ∧ Inv X pins σ (upd H' d (.lst l)) s' := by
  obtain ⟨hz, its, n, rv, ho⟩ := I.hok d _ hd
  have dl : d ≠ X.env.locals := fun e => by rw [e, I.free] at hd; cases hd
  have dfs : d ∉ X.fs := fun hb => by
    obtain ⟨_, o, hoo, _⟩ := I.ok.funs.mem hb
    have q := I.base.free d o hoo (I.ok.frf d hb) (fun z => I.ok.exfs d z hb)
    rw [q] at hd; cases hd
  have dc : ∀ v, (.seq its.toArray n : Data) ≠ .cell v := fun v q => nomatch q
  have d0 : ∀ o, X.s_0.heap.get? d = some o → X.H_0 d = none → d ∉ X.ex → False := fun o q1 q2 q3 => by
    have q := I.base.free d o q1 q2 q3
    rw [q] at hd; cases hd
  refine ⟨_, ho, ?_, ?_⟩
  · refine ⟨I.ok, I.os, I.bare, ⟨I.base.keep, I.base.slot, fun b o q n' hx => ?_, I.base.there, fun b xs q => ?_, fun b o u q => ?_, fun b ps q => ?_⟩, I.loc, I.cell, ?_, fun x c q => ?_, fun p hp => ?_, fun b o q => ?_, I.len⟩
    · unfold delH
      split
      · rfl
      · exact I.base.free b o q n' hx
    · have q2 := I.base.tups b xs q
      rw [delH_ne (fun e => by rw [e, hd] at q2; cases q2)]
      exact q2
    · have q2 := I.base.frzs b o u q
      rw [delH_ne (fun e => by rw [e, hd] at q2; cases q2)]
      exact q2
    · obtain ⟨m, q2⟩ := I.base.tbls b ps q
      exact ⟨m, by rw [delH_ne (fun e => by rw [e, hd] at q2; cases q2)]; exact q2⟩
    · rw [delH_ne (Ne.symm dl)]
      exact I.free
    · unfold delH
      split
      · rfl
      · exact I.freeC x c q
    · rcases List.mem_append.mp hp with hp | hp
      · obtain ⟨h1, h2, h3⟩ := I.pin p (List.mem_append_left _ hp)
        refine ⟨h1, ?_, h3⟩
        unfold delH
        split
        · rfl
        · exact h2
      · rcases List.mem_append.mp hp with hp | hp
        · obtain ⟨h1, h2, h3⟩ := I.pin p (List.mem_append_right _ hp)
          refine ⟨h1, ?_, h3⟩
          unfold delH
          split
          · rfl
          · exact h2
        · rw [List.mem_singleton.mp hp]
          exact ⟨ho, delH_same, dl, dfs, dc⟩
    · have nb : b ≠ d := fun e => by rw [e, delH_same] at q; cases q
      rw [delH_ne nb] at q
      exact (I.hok b o q).stay (fun _ _ _ z => z) (fun c z => by rw [delH_ne (fun e => by rw [e, hd] at z; cases z)]; exact z) fun c xs z => by rw [delH_ne (fun e => by rw [e, hd] at z; cases z)]; exact z
  · intro H' s' J
    obtain ⟨g1, g2, g3, g4, g5⟩ := J.pin (d, _) (List.mem_append_right _ (List.mem_append_right _ (List.mem_singleton_self _)))
    have g2' : H' d = none := g2
    refine ⟨g2', J.ok, J.os, J.bare, ⟨J.base.keep, J.base.slot, fun b o q n' hx => ?_, J.base.there, fun b xs q => ?_, fun b o u q => ?_, fun b ps q => ?_⟩, J.loc, J.cell, ?_, fun x c q => ?_, fun p hp => ?_, fun b o q => ?_, J.len⟩
    · by_cases e : b = d
      · subst e
        exact (d0 o q n' hx).elim
      · rw [upd_ne e]
        exact J.base.free b o q n' hx
    · have q2 := J.base.tups b xs q
      rw [upd_ne (ne_of_none q2 g2')]
      exact q2
    · have q2 := J.base.frzs b o u q
      rw [upd_ne (ne_of_none q2 g2')]
      exact q2
    · obtain ⟨m, q2⟩ := J.base.tbls b ps q
      exact ⟨m, by rw [upd_ne (ne_of_none q2 g2')]; exact q2⟩
    · rw [upd_ne (Ne.symm dl)]
      exact J.free
    · rw [upd_ne ?_]
      · exact J.freeC x c q
      · intro e
        obtain ⟨v, oc, hoc, hdc⟩ := J.cell x c q
        rw [e, g1] at hoc
        cases hoc
        cases hdc
    · obtain ⟨h1, h2, h3⟩ := J.pin p (by
        rcases List.mem_append.mp hp with hp | hp
        · exact List.mem_append_left _ hp
        · exact List.mem_append_right _ (List.mem_append_left _ hp))
      refine ⟨h1, ?_, h3⟩
      have np : p.1 ≠ d := fun e => by
        have z := (I.pin p hp).2.1
        rw [e, hd] at z; cases z
      rw [upd_ne np]
      exact h2
    · by_cases e : b = d
      · subst e
        rw [upd_same] at q
        cases q
        exact ⟨hz, its, n, rv, g1⟩
      · rw [upd_ne e] at q
        exact (J.hok b o q).stay (fun _ _ _ z => z) (fun c z => by rw [upd_ne (ne_of_none z g2')]; exact z) fun c xs z => by rw [upd_ne (ne_of_none z g2')]; exact z
theorem pe_fr {X : Cx} {e : Expr} {t : TE} (h : PE X e t) : PE X e (tFr t) := by
  refine ⟨fun pins s σ H Q I hq => ?_⟩
  obtain ⟨d, l, hd, q⟩ := hq
  obtain ⟨o, ho, J, back⟩ := Inv.aside I hd
  refine wpAny_mono (h.run _ s σ _ _ J q) (fun u s' z => ?_) fun _ _ z => z
  obtain ⟨v, H', J', rv, q'⟩ := z
  obtain ⟨g, I'⟩ := back H' s' J'
  exact ⟨v, _, I', rv, q' g⟩
end Bk
/-! ### the layer's rules with the written part named -/
namespace Bk
open PySem PySem.Spec PyProof.Rows L2
section
variable (K : PySem.W.Frag) {X : Cx}
theorem ixL (h : X.K = K := by rfl) : IxR X (rIxL K) := by subst h; exact ix_list
theorem ixT (h : X.K = K := by rfl) : IxR X (rIxT K) := by subst h; exact ix_tup
theorem ixQ (h : X.K = K := by rfl) : IxR X (rIx K) := by subst h; exact ix_seq
theorem slL (h : X.K = K := by rfl) : SlR X (rSlL K) := by subst h; exact sl_list
theorem slT (h : X.K = K := by rfl) : SlR X (rSlT K) := by subst h; exact sl_tup
def rLenQ : List V → Hp → VK → Prop := fun xs H Q => ∃ p ys, xs = [.ref p] ∧ (SqL K H p ys ∨ SqT K H p ys) ∧ Q (.int ys.length) H
theorem c_len (h : X.K = K := by rfl) : CallR X (.builtin "len") (rLenQ K) := by subst h; exact call_len_seq
theorem o_in (h : X.K = K := by rfl) : OpR X (compareOp .In) (rIn K false) := by subst h; exact op_in_seq
theorem o_ni (h : X.K = K := by rfl) : OpR X (compareOp .NotIn) (rIn K true) := by subst h; exact op_notIn_seq
theorem o_eqD (hu : X.A.units + 64 < cLine) (h : X.K = K := by rfl) : OpR X (compareOp .Eq) (rEqD K) := by subst h; exact op_eqD hu
theorem o_neD (hu : X.A.units + 64 < cLine) (h : X.K = K := by rfl) : OpR X (compareOp .NotEq) (rNeD K) := by subst h; exact op_neD hu
def rListQ : List V → Hp → VK → Prop := fun xs H Q => ∃ p ys, xs = [.ref p] ∧ (SqL K H p ys ∨ SqT K H p ys) ∧ ∀ l, H l = none → Q (.ref l) (upd H l (.lst ys))
theorem c_list (h : X.K = K := by rfl) : CallR X (.type "list") (rListQ K) := by subst h; exact call_list_of
def rTupQ : List V → Hp → VK → Prop := fun xs H Q => ∃ p ys, xs = [.ref p] ∧ ((SqL K H p ys ∧ ∀ l, H l = none → Q (.ref l) (upd H l (.tup ys))) ∨ (SqT K H p ys ∧ Q (.ref p) H))
theorem c_tuple (h : X.K = K := by rfl) : CallR X (.type "tuple") (rTupQ K) := by subst h; exact call_tuple_of
theorem c_sum (hc : X.calm = true) (h : X.K = K := by rfl) : CallR X (.builtin "sum") (rSum K) := by subst h; exact cr_sum hc
theorem c_max (hc : X.calm = true) (h : X.K = K := by rfl) : CallR X (.builtin "max") (rMax K) := by subst h; exact cr_max hc
theorem c_min (hc : X.calm = true) (h : X.K = K := by rfl) : CallR X (.builtin "min") (rMin K) := by subst h; exact cr_min hc
theorem c_any (hc : X.calm = true) (h : X.K = K := by rfl) : CallR X (.builtin "any") (rAny K) := by subst h; exact cr_any hc
theorem c_all (hc : X.calm = true) (h : X.K = K := by rfl) : CallR X (.builtin "all") (rAll K) := by subst h; exact cr_all hc
theorem c_sorted (h : X.K = K := by rfl) : CallR X (.builtin "sorted") (rSorted K) := by subst h; exact cr_sorted
theorem c_isi (h : X.K = K := by rfl) : CallR X (.builtin "isinstance") (rIsi K) := by subst h; exact call_isi
theorem m_index (h : X.K = K := by rfl) : MtR X "list.index" (rIndex K) := by subst h; exact mt_index
theorem o_catT (h : X.K = K := by rfl) : OpR X (binaryOp .Add) (rCatA K) := by subst h; exact op_catA
theorem iL {tg l : Expr} {tl : TE} (hl : PE X l tl) (h : X.K = K := by rfl) : PI X tg l (iList K tl) := by subst h; exact pi_list hl
theorem iT {tg l : Expr} {tl : TE} (hl : PE X l tl) (h : X.K = K := by rfl) : PI X tg l (iTup K tl) := by subst h; exact pi_tup hl
theorem e_fld {e : Expr} {f : Str} {pos : Pos} {ta : TE} (he : PE X e ta) (hb : attributeBase e f X.env (eval e X.env) = eval e X.env := by rfl) (h : X.K = K := by rfl) : PE X (.Attribute e f pos) (tFld K ta f) := by subst h; exact pe_fld he hb
theorem e_cval {e : Expr} {f : Str} {pos : Pos} {ta : TE} (he : PE X e ta) (hb : attributeBase e f X.env (eval e X.env) = eval e X.env := by rfl) (h : X.K = K := by rfl) : PE X (.Attribute e f pos) (ClX.tCVal K ta f) := by subst h; exact ClX.pe_cval he hb
theorem e_revL {e : Expr} {te : TE} {k : Nat} {p1 p2 p3 pos : Pos} (he : PE X e te) (h : X.K = K := by rfl) : PE X (.Subscript e (.Slice none none (some (.UnaryOp .USub (.Constant (.int 1) k p1) p2)) p3) pos) (tRevL K te) := by subst h; exact pe_revL he
theorem e_bm0 {T : String} {name : Str} {id : String} {r : V → List V → Hp → VK → Prop} {o : Expr} {to : TE} {apos cpos : Pos} (pa : PlainAttrs T) (slot : Slot T name id) (hty : typeOf (.builtin id) = pure (.type "method_descriptor")) (hm : MtR X id r) (ho : PE X o to)
    (hbase : attributeBase o name X.env (eval o X.env) = eval o X.env := by rfl) (hline : (apos.endLine == cpos.line) = true := by rfl) (h : X.K = K := by rfl) : PE X (.Call (.Attribute o name apos) [] [] cpos) (tBM0 K T r to) := by subst h; exact pe_bm0 pa slot hty hm ho hbase hline
theorem e_bm {T : String} {name : Str} {id : String} {r : V → List V → Hp → VK → Prop} {o e : Expr} {es : List Expr} {to : TE} {t : TA} {apos cpos : Pos} (pa : PlainAttrs T) (slot : Slot T name id) (hty : typeOf (.builtin id) = pure (.type "method_descriptor")) (hm : MtR X id r) (ho : PE X o to) (ha : PA X (e :: es) t)
    (hbase : attributeBase o name X.env (eval o X.env) = eval o X.env := by rfl)
    (hfew : ((backTo cpos (starEach (e :: es) X.env)).all (fun x => !x.1) && (backToKw cpos (keywordEach [] X.env)).all (fun x => x.1.isSome)
      && decide ((e :: es).length + ([] : List Keyword).length + (if ([] : List Keyword).isEmpty then 0 else 1) < 30)) = true := by rfl)
    (hline : (apos.endLine == cpos.line) = true := by rfl) (hs : starEach (e :: es) X.env = (false, eval e X.env) :: starEach es X.env := by rfl) (hplain : (backTo cpos (starEach es X.env)).any (·.1) = false := by rfl) (h : X.K = K := by rfl) :
    PE X (.Call (.Attribute o name apos) (e :: es) [] cpos) (tBM K T r to t) := by subst h; exact pe_bm pa slot hty hm ho ha hbase hfew hline hs hplain
def rJoin : V → List V → Hp → VK → Prop := fun x xs H Q => ∃ a p, ∃ ys : List Str, x = .str a ∧ xs = [.ref p] ∧ (SqL K H p (ys.map V.str) ∨ SqT K H p (ys.map V.str)) ∧ (ys.map (·.length)).sum + ys.length * a.length ≤ 16777216 ∧ Q (.str (Txt.join a ys)) H
theorem e_join {o e : Expr} {to te : TE} {apos pos : Pos} (ho : PE X o to) (he : PE X e te) (hs : starEach [e] X.env = [(false, eval e X.env)] := by rfl) (hbase : attributeBase o "join" X.env (eval o X.env) = eval o X.env := by rfl) (hline : (apos.endLine == pos.line) = true := by rfl) (h : X.K = K := by rfl) :
    PE X (.Call (.Attribute o "join" apos) [e] [] pos) (tM1 (rJoin K) to te) := by subst h; exact pe_join ho he hs hbase hline
theorem a_star {e : Expr} {es : List Expr} {te : TE} {t : TA} {p : Pos} (he : PE X e te) (hr : PA X es t) (hs : starEach (.Starred e p :: es) X.env = (true, eval e X.env) :: starEach es X.env := by rfl) (h : X.K = K := by rfl) : PA X (.Starred e p :: es) (StX.tStar K te t) := by subst h; exact StX.pa_star he hr hs
theorem g_tup (n : Nat) {es : List Expr} {k : Nat} {t : TGs} {pos : Pos} (hc : X.calm = true) (hh : PGs X es t)
    (hn : (assignEach es X.env).length = n := by rfl) (hst : (assignEach es X.env).findIdx? (·.1) = none := by rfl) (h : X.K = K := by rfl) : PG X (.Tuple es k pos) (gTup K n t) := by subst h; exact pg_tup hc hh hn hst
end
/-- a property of the class at C, its getter's promise -/
def PropC (P : Program) (w : World) (K : PySem.W.Frag) (mg : Str → Option Value) (base : Heap) (k : Nat) (C : Addr) (f : Str) (sp : Sp) : Prop := ∃ p g fd, PropOf K C f p g ∧ FnOk P w K mg base CX0 k g fd ["self"] sp ∧ Binds K fd ["self"] []
theorem e_prop {X : Cx} {C : Addr} {f : Str} {sp : Sp} {k j : Nat} {e : Expr} {ta : TE} {pos : Pos} (c : PropC X.prog X.w X.K X.mg X.base k C f sp) (cl : Cls X.K C) (hr : Room j X.A) (hk : k + 1 ≤ j) (he : PE X e ta)
    (hab : attributeBase e f X.env (eval e X.env) = eval e X.env := by rfl) : PE X (.Attribute e f pos) (tProp C sp [] E0 ta) := by
  obtain ⟨p, g, fd, hp, F, b⟩ := c
  exact pe_prop he cl hp F (hr.mono hk) b .nil pass0 hab
def LenC (P : Program) (w : World) (K : PySem.W.Frag) (mg : Str → Option Value) (base : Heap) (k : Nat) (C : Addr) (sp : Sp) : Prop := ∃ g, PySem.W.findIn K (.ref C) "__len__" = some (some (.ref g)) ∧ PySem.W.isFn K (.ref g) = true ∧ FnR P w K mg base CX0 k g sp
theorem c_lenL {X : Cx} {C : Addr} {sp : Sp} {k j : Nat} (c : LenC X.prog X.w X.K X.mg X.base k C sp) (hr : Room j X.A) (hk : k + 1 ≤ j) : CallR X (.builtin "len") (rLenO C sp E0) := by
  obtain ⟨g, h1, h2, F⟩ := c
  exact call_lenO h1 h2 F (hr.mono hk) pass0
end Bk
/-! ### the text -/
namespace Bk
open PySem PySem.Spec PyProof.Rows L2
def top (i : Nat) : Stmt := PySem.Challenge.pw_bucketline_k40_encoded_lines.main.body.getD i (.Pass ⟨0, 0, 0, 0⟩)
abbrev FnP (K : PySem.W.Frag) (x q : Str) (st : Stmt) (f : Addr) (fd : FuncData) : Prop := FunD K x q (defArgs st) (defBody st) (defScope st) [] [] f fd
structure Tx (mg : Str → Option Value) : Prop where
  f_TypeError : mg "TypeError" = none
  f_ValueError : mg "ValueError" = none
  f_abs : mg "abs" = none
  f_all : mg "all" = none
  f_any : mg "any" = none
  f_bool : mg "bool" = none
  f_classmethod : mg "classmethod" = none
  f_enumerate : mg "enumerate" = none
  f_int : mg "int" = none
  f_isinstance : mg "isinstance" = none
  f_len : mg "len" = none
  f_list : mg "list" = none
  f_max : mg "max" = none
  f_min : mg "min" = none
  f_property : mg "property" = none
  f_range : mg "range" = none
  f_str : mg "str" = none
  f_tuple : mg "tuple" = none
  f_zip : mg "zip" = none
  g_LETTERS : ∃ u, mg "LETTERS" = some u ∧ RelV (.str "abcdefghijklmnopqrstuvwxyz") u
  g_MAX_LETTERS : ∃ u, mg "MAX_LETTERS" = some u ∧ RelV (.int 8) u
  g_MAX_BUCKET : ∃ u, mg "MAX_BUCKET" = some u ∧ RelV (.int 1000000000000000000) u
  g_TAG : ∃ u, mg "TAG" = some u ∧ RelV (.int 66) u
  g_BYTE : ∃ u, mg "BYTE" = some u ∧ RelV (.int 256) u
  g_MODULUS : ∃ u, mg "MODULUS" = some u ∧ RelV (.int 241) u
  g_DIGITS : ∃ u, mg "DIGITS" = some u ∧ RelV (.str "0123456789") u
  g_MAX_DIGITS : ∃ u, mg "MAX_DIGITS" = some u ∧ RelV (.int 4) u
end Bk
namespace Bk
open PySem PySem.Spec PyProof.Rows L2
def spBelow : Sp := fun vs H Q _ => ∃ (d : Addr) (l : List Int) (n : Int), vs = [.ref d, .int n] ∧ H d = some (.lst (ivs l)) ∧ Src l ∧ 1 ≤ n ∧ n ≤ 1000000 ∧
  ∀ r l', 0 ≤ r → r < n → Src l' → l'.length ≤ l.length → Q (.int r) (upd H d (.lst (ivs l')))
section
variable {P : Program} {w : World} {K : PySem.W.Frag} {mg : Str → Option Value} {base : Heap}
abbrev s__law_below : Stmt := top 36
theorem sc__law_below : FnScope ["_law_d", "_law_limit", "_law_result"] ["_law_d", "_law_limit"] (defScope s__law_below) := ⟨rfl, rfl, rfl, by decide +kernel, rfl, by decide +kernel, by decide +kernel⟩

theorem ok_below {f : Addr} {fd : FuncData} (F : FnP K "_law_below" "_law_below" s__law_below f fd) (T : Tx mg) : FnOk P w K mg base CX0 1 f fd ["_law_d", "_law_limit"] spBelow := by
  refine F.ok sc__law_below (fun vs H Q E h => ?_) (fun cdv A outer s H vs Q E hr h => ?_)
  · obtain ⟨d, l, n, rfl, _⟩ := h
    rfl
  · obtain ⟨d, l, n, rfl, hd, ⟨a, b, r, rfl, ha, hb, hrr⟩, hn, hn2, k⟩ := h
    refine ⟨_, PSs.nox 
      (Evl.pss_cut (ps_if (PW.pt (pw_and (pt_cmpR op_eq (pe_ix (ixL K) (pv 0) pe_int (fun _ _ => rfl)) pe_int (nomark _)) (pw_and1 (pt_cmpR op_gt (pe_callB (c_len K) (by rfl) T.f_len PySem.boot_len (pa_cons (pv 0) pa_nil)) pe_int (nomark _))))) 
        (pss_one (ps_asg (e_bm K PySem.F.plainAttrs_list PySem.F.slot_list_pop PySem.F.type_list_pop mt_popAt (pv 0) (pa_cons pe_int pa_nil)) (pg_sub (pv 0) pe_int set_list))) pss_nil)
      (pss_cons (ps_if (pt_cmpR op_gt (pe_ix (ixL K) (pv 0) pe_int (fun _ _ => rfl)) pe_int (nomark _)) 
        (pss_cons (ps_set (i := 2) sc__law_below.nd rfl (.inl rfl) (pe_op op_mod (pe_ix (ixL K) (pv 0) pe_int (fun _ _ => rfl)) (pv 1)))
        (pss_cons (ps_asg (pe_op op_fdiv (pe_ix (ixL K) (pv 0) pe_int (fun _ _ => rfl)) (pv 1)) (pg_sub (pv 0) pe_int set_list))
        (pss_one (ps_ret (pv 2))))) pss_nil)
      (pss_cons (ps_asg (pe_op op_mod (pe_op op_add (pe_op op_mul (pe_ix (ixL K) (pv 0) pe_int (fun _ _ => rfl)) pe_int) pe_int) pe_int) (pg_sub (pv 0) pe_int set_list))
      (pss_one (ps_ret (pe_op op_mod (pe_op op_fdiv (pe_ix (ixL K) (pv 0) pe_int (fun _ _ => rfl)) pe_int) (pv 1))))))), ?_⟩
    refine ⟨fun σ' H' => ∃ b' r', σ' = [some (.ref d), some (.int n), none] ∧ H' = upd H d (.lst (ivs (a :: b' :: r'))) ∧ 0 ≤ b' ∧ (∀ x ∈ r', (0 : Int) ≤ x) ∧ r'.length ≤ r.length, ?_, ?_⟩
    · have same : H = upd H d (.lst (ivs (a :: b :: r))) := by
        funext x
        by_cases e : x = d
        · rw [e, upd_same, hd]
        · rw [upd_ne e]
      refine ⟨_, rfl, d, _, 1, _, rfl, rfl, SqL.of hd, at_1, rfl, _, rfl, ?_⟩
      refine iteD (fun h0 => ?_) (fun h0 => ?_)
      · refine ⟨_, rfl, d, _, rfl, .inl (SqL.of hd), _, _, rfl, rfl, _, rfl, ?_⟩
        refine iteD (fun h1 => ?_) (fun h1 => ?_)
        · cases r with
          | nil => exact absurd h1 (by simp [ivs])
          | cons c r =>
            refine ⟨_, rfl, .inl ⟨rfl, _, SqL.of hd⟩, d, _, _, 2, _, rfl, rfl, hd, by decide, by decide, sq_2, rfl, ?_⟩
            refine ⟨_, rfl, d, _, 1, 1, rfl, rfl, upd_same, ix_1, ?_⟩
            rw [upd_upd]
            exact ⟨c, r, rfl, rfl, hrr c (by simp), fun x hx => hrr x (by simp [hx]), by simp⟩
        · exact ⟨b, r, rfl, same, hb, hrr, Nat.le_refl _⟩
      · exact ⟨b, r, rfl, same, hb, hrr, Nat.le_refl _⟩
    · rintro σ' H' ⟨b', r', rfl, rfl, hb', hr', hl'⟩
      have hd' : upd H d (.lst (ivs (a :: b' :: r'))) d = some (.lst (ivs (a :: b' :: r'))) := upd_same
      refine ⟨_, rfl, d, _, 1, _, rfl, rfl, SqL.of hd', at_1, _, _, rfl, rfl, _, rfl, ?_⟩
      refine iteD (fun h0 => ?_) (fun h0 => ?_)
      · refine ⟨_, rfl, d, _, 1, _, rfl, rfl, SqL.of hd', at_1, _, rfl, _, _, rfl, rfl, (by show (0 : Int) < n; omega), ?_⟩
        refine ⟨_, rfl, d, _, 1, _, rfl, rfl, SqL.of hd', at_1, _, rfl, _, _, rfl, rfl, ⟨by omega, by omega⟩, ?_⟩
        refine ⟨_, rfl, d, _, 1, 1, rfl, rfl, hd', ix_1, _, rfl, ?_⟩
        rw [upd_upd]
        exact k (b' % n) (a :: (b' / n) :: r') (Int.emod_nonneg _ (by omega)) (Int.emod_lt_of_pos _ (by omega)) ⟨a, _, r', rfl, ha, Int.ediv_nonneg hb' (by omega), hr'⟩ (by simp [hl'])
      · refine ⟨_, rfl, d, _, 0, _, rfl, rfl, SqL.of hd', at_0, _, _, rfl, rfl, .inr ⟨by decide, by decide⟩, _, _, rfl, rfl, _, _, rfl, rfl, (by show (0 : Int) < 2147483647; decide), ?_⟩
        refine ⟨_, rfl, d, _, 0, 0, rfl, rfl, hd', ix_0, ?_⟩
        refine ⟨_, rfl, d, _, 0, _, rfl, rfl, SqL.of upd_same, at_0, _, _, rfl, rfl, ⟨by decide, by decide⟩, _, rfl, _, _, rfl, rfl, (by show (0 : Int) < n; omega), ?_⟩
        rw [upd_upd]
        exact k _ (((a * 48271 + 11) % 2147483647) :: b' :: r') (Int.emod_nonneg _ (by omega)) (Int.emod_lt_of_pos _ (by omega)) ⟨_, b', r', rfl, Int.emod_nonneg _ (by decide), hb', hr'⟩ (by simp [hl'])
def seedOf (ns : List Int) (s : Int) : Int := ns.foldl (fun s c => (s * 31 + (if c < 0 then -c else c)) % 2147483647) s
def spRandom (K : PySem.W.Frag) : Sp := fun vs H Q _ => ∃ (a : Addr) (ns : List Int) (salt : Int), vs = [.ref a, .int salt] ∧ SqL K H a (ivs ns) ∧ ns.length ≤ 63 ∧ 0 ≤ salt ∧
  ∀ H' p l, Same H H' → H p = none → Src l → l.length ≤ 65 → H' p = some (.lst (ivs l)) → Q (.ref p) H'
abbrev s__law_random : Stmt := top 35
theorem sc__law_random : FnScope ["_law_script", "_law_salt", "_law_seed", "_law_cell"] ["_law_script", "_law_salt"] (defScope s__law_random) := ⟨rfl, rfl, rfl, by decide +kernel, rfl, by decide +kernel, by decide +kernel⟩

theorem ok_random {f : Addr} {fd : FuncData} (F : FnP K "_law_random" "_law_random" s__law_random f fd) (T : Tx mg) : FnOk P w K mg base CX0 1 f fd ["_law_script", "_law_salt"] (spRandom K) := by
  refine F.ok sc__law_random (fun vs H Q E h => ?_) (fun cdv A outer s H vs Q E hr h => ?_)
  · obtain ⟨d, l, n, rfl, _⟩ := h
    rfl
  · obtain ⟨a, ns, salt, rfl, hS, hlen, hs0, k⟩ := h
    refine ⟨_, PSs.nox 
      (pss_cons (ps_set (i := 2) sc__law_random.nd rfl (.inl rfl) (pv 1))
      (pss_cons (ps_for PassesOwn.never rfl (iL K (pv 0)) (pg_name (i := 3) sc__law_random.nd rfl (Or.inl rfl)) 
        (pss_one (ps_set (i := 2) sc__law_random.nd rfl (.inl rfl) (pe_op op_mod (pe_op op_add (pe_op op_mul (pv 2) pe_int) (pe_callB call_abs (by rfl) T.f_abs (by decide +kernel) (pa_cons (pv 3) pa_nil))) pe_int))))
      (pss_one (ps_ret (pe_op op_cat (pe_lst (pa_cons (pv 2) (pa_cons pe_int pa_nil))) (pe_lc (own := [("_law_cell", 3)]) rfl sc__law_random.nd (iL K (pv 0)) (blkOk_by (own := [("_law_cell", 3)]) (N := ["_law_script", "_law_salt", "_law_seed", "_law_cell"]) (sc := defScope s__law_random) (by decide +kernel)) (fun _ _ _ _ _ => (pg_name (i := 3) sc__law_random.nd rfl (Or.inl rfl))) (fun _ _ _ _ _ => (pts_one (pt_cmpR op_ge (pv 3) (pe_op op_pow pe_int pe_int) (nomark _)))) (fun _ _ _ _ _ => (pv 3)))))))), ?_⟩
    refine ⟨_, rfl, ?_⟩
    refine ⟨_, rfl, a, rfl, ⟨_, hS⟩, for_list (K := K) (a := a) (xs := ivs ns) (fun i σ H' => ∃ (z : Int) (c : Option V), σ = [some (.ref a), some (.int salt), some (.int z), c] ∧ H' = H ∧ 0 ≤ z)
      ⟨salt, none, rfl, rfl, hs0⟩ ?_ ?_ ?_⟩
    · rintro i σ H' _ ⟨z, c, _, rfl, _⟩
      exact hS
    · rintro i x σ H' hi ⟨z, c, rfl, rfl, hz⟩
      obtain ⟨u, _, rfl⟩ := ivs_get hi
      refine ⟨_, rfl, _, _, rfl, rfl, .inr ⟨by decide, by decide⟩, _, rfl, _, rfl, _, _, rfl, rfl, _, _, rfl, rfl, (by show (0 : Int) < 2147483647; decide), ?_⟩
      exact ⟨_, _, rfl, rfl, Int.emod_nonneg _ (by decide)⟩
    · rintro σ H' ⟨z, c, rfl, rfl, hz⟩
      refine ⟨_, rfl, (by show 2 ≤ sizeLine; decide), fun p hp => ?_⟩
      have s1 : Same H' (upd H' p (.lst [.int z, .int 0])) := Evl.Ex.new hp
      refine ⟨_, rfl, a, rfl, ⟨_, s1.seq hS⟩, fun D hD => ?_⟩
      have hpD : p ≠ D := ne_of_none upd_same hD
      have hD0 : H' D = none := s1.free hD
      refine lc_it (walk_list (K := K) (a := a) (xs := ivs ns)) (fun i G => ∃ l : List Int, (∀ x ∈ l, (0 : Int) ≤ x) ∧ l.length ≤ i ∧ G = upd (upd H' p (.lst [.int z, .int 0])) D (.lst (ivs l)))
        ⟨[], by simp, Nat.le_refl _, rfl⟩ ?_ ?_ ?_
      · rintro i G _ ⟨l, _, _, rfl⟩
        exact (Same.trans s1 (Evl.Ex.new hD)).seq hS
      · rintro i x G G' hi ⟨l, hl, hll, rfl⟩ ⟨rfl, hx⟩
        obtain ⟨u, _, rfl⟩ := ivs_get hx
        refine ⟨rfl, _, rfl, _, _, rfl, rfl, ⟨by decide, by decide, by decide⟩, _, _, rfl, rfl, _, rfl, ?_⟩
        refine iteD (fun h0 => ?_) (fun h0 => ?_)
        · refine ⟨_, rfl, _, upd_same, ?_, l ++ [u], ?_, ?_, ?_⟩
          · unfold ivs at *
            rw [List.length_map] at *
            exact Nat.lt_of_le_of_lt (Nat.le_trans hll (Nat.le_trans (Nat.le_of_lt hi) hlen)) (by decide)
          · intro y hy
            rcases List.mem_append.mp hy with hy | hy
            · exact hl y hy
            · rw [List.mem_singleton.mp hy]
              exact Int.le_trans (by decide) h0
          · rw [List.length_append, List.length_singleton]
            omega
          · rw [upd_upd]
            unfold ivs
            rw [List.map_append]
            rfl
        · exact ⟨l, hl, Nat.le_succ_of_le hll, rfl⟩
      · rintro G ⟨l, hl, hll, rfl⟩
        have hl63 : l.length ≤ 63 := by
          unfold ivs at hll
          rw [List.length_map] at hll
          omega
        refine ⟨p, D, _, _, rfl, rfl, (by rw [upd_ne hpD]; exact upd_same), upd_same, ?_, fun q hq => ?_⟩
        · unfold ivs
          rw [List.length_map]
          exact Nat.le_trans (show 2 + l.length ≤ 100 by omega) (by decide)
        · refine k _ q (z :: 0 :: l) ((s1.trans (Evl.Ex.new hD)).trans (Evl.Ex.new hq)) ((s1.trans (Evl.Ex.new hD)).free hq) ⟨z, 0, l, rfl, hz, by decide, hl⟩ (by simp; omega) upd_same
end
end Bk
/-! ### names, lines -/
namespace Bk
open PySem PySem.Spec PyProof.Rows L2
def letters : List Nat := ("abcdefghijklmnopqrstuvwxyz" : Str).cps.toList
def isName (s : Str) : Bool := decide ((1 : Int) ≤ s.length) && (decide ((s.length : Int) ≤ 8) && s.cps.toList.all fun c => decide (c ∈ letters))
abbrev Person := Str × Int
def pyP (p : Person) : PyData := .tuple [.str p.1, .int p.2]
def pyPs (ps : List Person) : List PyData := ps.map pyP
structure Valid (ps : List Person) : Prop where
  lo : 2 ≤ ps.length
  hi : ps.length ≤ 12
  nd : (ps.map (·.1)).Nodup
  nm : ∀ p ∈ ps, isName p.1 = true
  pc : ∀ p ∈ ps, 1 ≤ p.2 ∧ p.2 ≤ 1000
structure LineT (K : PySem.W.Frag) (mg : Str → Option Value) (C : Addr) : Prop where
  g : ∃ u, mg "Line" = some u ∧ RelV (.ref C) u
  cl : Cls K C
  nC : NoAttr K C "crew"
  mc : ∃ mc, ClX.CRead K C mc ∧ (∃ u, ClX.CVal K C mc "MAX_PEOPLE" (.int 12) u) ∧ ∃ u, ClX.CVal K C mc "MAX_PACE" (.int 1000) u
def spIsName : Sp := fun vs H Q _ => ∃ s : Str, vs = [.str s] ∧ s.length ≤ 100000 ∧ ∀ b H', b = isName s → Same H H' → Q (.bl b) H'
def spLineB (K : PySem.W.Frag) (C : Addr) : Sp := fun vs H Q _ => ∃ (a dx p : Addr) (xs : List V) (ps : List Person), vs = [.ref a, .ref p] ∧ H a = some (.ins C dx []) ∧ H p = some (.tup xs) ∧ DpAll K H xs (pyPs ps) ∧ Valid ps ∧
  ∀ H', Same (delH H a) H' → H' a = some (.ins C dx [("crew", .ref p)]) → Q .non H'
theorem strs_flat : ∀ l : List Str, (l.map V.str).all flatV = true
  | [] => rfl
  | _ :: l => by simpa [flatV] using strs_flat l
theorem inV_strs (x : Str) (l : List Str) : inV (.str x) (l.map V.str) = decide (x ∈ l) := by
  unfold inV
  induction l with
  | nil => rfl
  | cons y l ih =>
    rw [List.map_cons, List.any_cons, ih]
    by_cases h : y = x
    · subst h
      simp [eqV]
    · have h' : x ≠ y := fun z => h z.symm
      simp [eqV, h, h']
def spLineR (K : PySem.W.Frag) (C : Addr) : Sp := fun vs H Q E => ∃ ws rest, vs = ws ++ rest ∧ ws.length = ["self"].length ∧ rest.length ≤ sizeLine ∧ ∀ p, H p = Option.none → spLineB K C (ws ++ [V.ref p]) (upd H p (.tup rest)) Q E
/-- a line: its people -/
def IsLine (K : PySem.W.Frag) (C : Addr) (H : Hp) (v : V) (ps : List Person) : Prop := ∃ a dx p xs, v = .ref a ∧ H a = some (.ins C dx [("crew", .ref p)]) ∧ H p = some (.tup xs) ∧ DpAll K H xs (pyPs ps)
theorem IsLine.same {K : PySem.W.Frag} {C : Addr} {H H' : Hp} {v : V} {ps : List Person} (h : IsLine K C H v ps) (e : Same H H') : IsLine K C H' v ps := by
  obtain ⟨a, dx, p, xs, h1, h2, h3, h4⟩ := h
  exact ⟨a, dx, p, xs, h1, e _ _ h2, e _ _ h3, h4.same e⟩
/-- Line(*people) -/
theorem mk_line {K : PySem.W.Frag} {C : Addr} {H : Hp} {xs : List V} {ps : List Person} {Q : VK} {E : XK} (hd : DpAll K H xs (pyPs ps)) (hV : Valid ps) (k : ∀ H' v, Same H H' → IsLine K C H' v ps → Q v H') :
    ∀ x dx, H x = Option.none → H dx = Option.none → dx ≠ x → spLineR K C (V.ref x :: xs) (upd (upd H dx (.own x)) x (.ins C dx [])) (fun v H2 => v = .non ∧ Q (.ref x) H2) E := by
  intro x dx hx hdx hne
  have hl : xs.length = ps.length := by rw [hd.len]; unfold pyPs; simp
  have s1 : Same H (upd (upd H dx (.own x)) x (.ins C dx [])) := same_mut (same_new hdx) hx
  refine ⟨[.ref x], xs, rfl, rfl, sz (by have := hV.hi; omega), fun p hp => ?_⟩
  have s2 : Same H (upd (upd (upd H dx (.own x)) x (.ins C dx [])) p (.tup xs)) := s1.trans (same_new hp)
  have hpx : p ≠ x := fun z => by rw [z, upd_same] at hp; cases hp
  refine ⟨x, dx, p, xs, ps, rfl, by rw [upd_ne (Ne.symm hpx)]; exact upd_same, upd_same, hd.same s2, hV, fun H' s3 h' => ⟨rfl, ?_⟩⟩
  have s4 : Same H H' := fun b o e => s3 b o (by rw [delH_ne (ne_of_none e hx)]; exact s2 b o e)
  refine k H' (.ref x) s4 ⟨x, dx, p, xs, rfl, h', s3 p _ (by rw [delH_ne hpx]; exact upd_same), hd.same s4⟩
section
variable {P : Program} {w : World} {K : PySem.W.Frag} {mg : Str → Option Value} {base : Heap} {C : Addr}
abbrev s_is_name : Stmt := top 12
theorem sc_is_name : FnScope ["name", "letter"] ["name"] (defScope s_is_name) := ⟨rfl, rfl, rfl, by decide +kernel, rfl, by decide +kernel, by decide +kernel⟩

theorem ok_is_name {f : Addr} {fd : FuncData} (F : FnP K "is_name" "is_name" s_is_name f fd) (T : Tx mg) : FnOk P w K mg base CX0 1 f fd ["name"] spIsName := by
  refine F.ok sc_is_name (fun vs H Q E h => ?_) (fun cdv A outer s H vs Q E hr h => ?_)
  · obtain ⟨d, rfl, _⟩ := h
    rfl
  · obtain ⟨z, rfl, hz, k⟩ := h
    refine ⟨_, PSs.nox 
      (pss_one (ps_ret (pe_and (pe_chain op_le op_le pe_int (pe_callB call_len_str (by rfl) T.f_len PySem.boot_len (pa_cons (pv 0) pa_nil)) (C8.pe_gc rfl T.g_MAX_LETTERS)) (pe_one (pe_callB (c_all K rfl) (by rfl) T.f_all (by decide +kernel) (pa_cons (pe_lc (own := [("letter", 1)]) rfl sc_is_name.nd (pi_str (pv 0)) (blkOk_by (own := [("letter", 1)]) (N := ["name", "letter"]) (sc := defScope s_is_name) (by decide +kernel)) (fun _ _ _ _ _ => (pg_name (i := 1) sc_is_name.nd rfl (Or.inl rfl))) (fun _ _ _ _ _ => pts_nil) (fun _ _ _ _ _ => (pe_cmpR op_in_sign (pv 1) (C8.pe_gc rfl T.g_LETTERS) rfl))) pa_nil)))))), ?_⟩
    refine ⟨_, rfl, z, rfl, sz hz, _, _, rfl, rfl, _, rfl, ?_⟩
    refine iteD (fun h0 => ?_) (fun h0 => ?_)
    · refine ⟨_, _, rfl, rfl, _, rfl, ?_⟩
      refine iteD (fun h1 => ?_) (fun h1 => ?_)
      · refine ⟨_, rfl, z, rfl, fun D hD => ?_⟩
        refine lc_it (walk_str (z := z)) (fun i G => G = upd H D (.lst ((z.cps.toList.take i).map fun c => V.bl (decide (c ∈ letters))))) rfl (fun _ _ _ _ => trivial) ?_ ?_
        · rintro i x G G' hi rfl ⟨rfl, c, hc, rfl⟩
          refine ⟨rfl, _, rfl, c, _, rfl, rfl, _, upd_same, ?_, ?_⟩
          · rw [List.length_map]
            refine szl (Nat.lt_of_le_of_lt (List.length_take_le _ _) ?_)
            have : z.length = z.cps.size := rfl
            omega
          · rw [upd_upd]
            have hc' : z.cps.toList[i]? = some c := by simpa using hc
            rw [List.take_add_one, hc']
            simp [letters]
        · rintro G rfl
          refine ⟨D, (z.cps.toList.map fun c => decide (c ∈ letters)), rfl, SqL.of (by rw [upd_same, List.map_map, show z.cps.size = z.cps.toList.length by simp, List.take_length]; rfl), ?_⟩
          refine k _ _ ?_ (same_new hD)
          unfold isName
          rw [decide_eq_true h0, decide_eq_true h1]
          simp [Function.comp_def]
      · exact k _ _ (by unfold isName; rw [decide_eq_false h1]; simp) (Same.refl _)
    · refine ⟨_, rfl, ?_⟩
      exact k _ _ (by unfold isName; rw [decide_eq_false h0]; simp) (Same.refl _)
abbrev s_Line___init__ : Stmt := inClass (top 14) 2
theorem sc_Line___init__ : FnScope ["self", "people", "index", "name", "pace", "earlier", "other"] ["self", "people"] (defScope s_Line___init__) := ⟨rfl, rfl, rfl, by decide +kernel, rfl, by decide +kernel, by decide +kernel⟩

theorem pyPs_get {ps : List Person} {i : Nat} {d : PyData} (h : (pyPs ps)[i]? = some d) : ∃ p, ps[i]? = some p ∧ d = pyP p := by
  unfold pyPs at h
  rw [List.getElem?_map] at h
  cases e : ps[i]? with
  | none => rw [e] at h; cases h
  | some p => rw [e] at h; exact ⟨p, rfl, (Option.some.inj h).symm⟩
theorem dp_person {H : Hp} {v : V} {p : Person} (h : Dp K H v (pyP p)) : ∃ a, v = .ref a ∧ SqT K H a [.str p.1, .int p.2] := by
  obtain ⟨a, xs, rfl, hs, ha⟩ := dp_tup h
  cases ha with
  | cons h1 h2 =>
    cases h2 with
    | cons h3 h4 =>
      cases h4
      cases h1
      cases h3
      exact ⟨a, rfl, hs⟩
theorem ok_LineInit {f : Addr} {fd : FuncData} (F : FnP K "__init__" "Line.__init__" s_Line___init__ f fd) (T : Tx mg) (L : LineT K mg C) (cName : C8.Cal P w K mg base 1 "is_name" spIsName []) :
    FnR P w K mg base CX0 2 f (spLineR K C) := by
  obtain ⟨oc, od, dV, kV, doc, pm, an, cdv, ct, osl, rfl, lk, hcd, hdv, hkw⟩ := F.ex
  have hdV : dV = .none := by
    rcases hdv with ⟨_, e⟩ | ⟨e, _⟩
    · exact e
    · exact absurd rfl e
  subst hdV
  refine StX.fn_star (N := ["self", "people", "index", "name", "pace", "earlier", "other"]) (ps := ["self"]) (pv := "people") lk hcd sc_Line___init__ StX.cxUp_none (StX.bind_star1 (B := fun us => bindArgs (PySem.W.fnOf "__init__" "Line.__init__" (defArgs s_Line___init__) (defBody s_Line___init__) (defScope s_Line___init__) .none kV doc pm an cdv ct) ⟨us, []⟩) (fun a => rfl) (fun a r rs => rfl)) fun A outer s H vs Q E hr h => ?_
  obtain ⟨a, dx, p, xs, ps, rfl, ha, hp, hd, hV, k⟩ := h
  refine ⟨_, PSs.nox 
      (pss_cons (ps_for PassesOwn.never rfl (pi_enumT (by rfl) T.f_enumerate (pa_cons (pv 1) pa_nil)) (g_tup K 2 rfl (pgs_cons (pg_name (i := 2) sc_Line___init__.nd rfl (Or.inl rfl)) (pgs_cons (g_tup K 2 rfl (pgs_cons (pg_name (i := 3) sc_Line___init__.nd rfl (Or.inl rfl)) (pgs_cons (pg_name (i := 4) sc_Line___init__.nd rfl (Or.inl rfl)) pgs_nil))) pgs_nil))) 
        (pss_cons (ps_setLc (i := 5) (own := [("other", 6)]) rfl sc_Line___init__.nd rfl rfl (sw_true rfl rfl rfl (by decide +kernel)) (iT K (pe_slice (slT K) (pv 1) po_none (po_some (pv 2)))) (blkOk_by (own := [("other", 6)]) (N := ["self", "people", "index", "name", "pace", "earlier", "other"]) (sc := defScope s_Line___init__) (by decide +kernel)) (fun _ _ _ _ _ => (pg_name (i := 6) sc_Line___init__.nd rfl (Or.inl rfl))) (fun _ _ _ _ _ => pts_nil) (fun _ _ _ _ _ => (pe_ix (ixT K) (pv 6) pe_int (fun _ _ => rfl))))
        (pss_one (ps_if (PW.pt (pw_or (pt_cmpR op_eq (pv 2) (e_cval K (C8.pe_gc rfl L.g)) (nomark _)) (pw_or (pt_not (pt_val (C8.pe_c cName hr (by decide) rfl (pa_cons (pv 3) pa_nil)))) (pw_or (pt_not (pt_chain op_le op_le pe_int (pv 4) (e_cval K (C8.pe_gc rfl L.g)))) (pw_or1 (pt_cmpR (o_in K) (pv 3) (pv 5) rfl)))))) 
          (pss_one ps_never) pss_nil))))
      (pss_cons (ps_if (pt_cmpR op_lt (pe_callB (c_len K) (by rfl) T.f_len PySem.boot_len (pa_cons (pv 1) pa_nil)) pe_int (nomark _)) 
        (pss_one ps_never) pss_nil)
      (pss_one (ps_fld (pv 0) (pv 1) rfl)))), ?_⟩
  obtain ⟨mc, cr, ⟨u1, cv1⟩, ⟨u2, cv2⟩⟩ := L.mc
  have hlen : xs.length = ps.length := by rw [hd.len]; unfold pyPs; simp
  have hpa : p ≠ a := ne_of hp ha (by intro z; cases z)
  have hpT : SqT K H p xs := SqT.of' hp
  refine ⟨_, rfl, p, xs, rfl, hpT, for_it (walk_enumT (K := K) (a := p) (ys0 := xs)) (fun i σ H' => ∃ v1 v2 v3 v4 : Option V, σ = [some (.ref a), some (.ref p), v1, v2, v3, v4, none] ∧ Same H H') ⟨none, none, none, none, rfl, Same.refl _⟩ ?_ ?_ ?_⟩
  · rintro i σ H' _ ⟨_, _, _, _, _, s1⟩
    exact s1.seqT hpT
  · rintro i x σ H' H2 hi ⟨v1, v2, v3, v4, rfl, s1⟩ ⟨t, _, y, rfl, ht, rfl, ei, hy⟩
    cases ei
    obtain ⟨d, hd1, hd2⟩ := hd.get hy
    obtain ⟨q, hq, rfl⟩ := pyPs_get hd1
    obtain ⟨b, rfl, hb⟩ := dp_person hd2
    have s2 : Same H (upd H' t (.tup [.int (i : Nat), .ref b])) := s1.trans (same_new ht)
    have hiL : i < ps.length := by omega
    refine ⟨t, _, rfl, SqT.of' upd_same, rfl, _, _, rfl, _, _, rfl, b, _, rfl, s2.seqT hb, rfl, _, _, rfl, _, _, rfl, rfl, rfl, ?_⟩
    refine ⟨_, rfl, _, rfl, _, rfl, p, xs, rfl, s2.seqT hpT, ?_, fun z hz => ?_⟩
    · rw [HT.sIx_nat]
      omega
    have s3 : Same H (upd (upd H' t (.tup [.int (i : Nat), .ref b])) z (.tup (cutV xs none (some ((i : Nat) : Int))))) := s2.trans (same_new hz)
    refine ⟨z, rfl, ⟨_, SqT.of' upd_same⟩, fun D hD => ?_⟩
    rw [cut_to (by omega)] at hD s3 ⊢
    have hL : (xs.take i).length = i := by rw [List.length_take]; omega
    refine lc_it (walk_tup (K := K) (a := z) (xs := xs.take i)) (fun j G => G = upd (upd (upd H' t (.tup [.int (i : Nat), .ref b])) z (.tup (xs.take i))) D (.lst (((ps.map (·.1)).take j).map V.str))) rfl ?_ ?_ ?_
    · rintro j G _ rfl
      exact (same_new hD).seqT (SqT.of' upd_same)
    · rintro j x G G' hj rfl ⟨rfl, hx⟩
      rw [hL] at hj
      have hx' : xs[j]? = some x := by
        rw [List.getElem?_take, if_pos hj] at hx
        exact hx
      obtain ⟨d, hd1, hd2⟩ := hd.get hx'
      obtain ⟨q', hq', rfl⟩ := pyPs_get hd1
      obtain ⟨b', rfl, hb'⟩ := dp_person hd2
      refine ⟨rfl, _, rfl, b', _, 0, _, rfl, rfl, (s3.trans (same_new hD)).seqT hb', at_0, _, upd_same, ?_, ?_⟩
      · rw [List.length_map]
        refine szl (Nat.lt_of_le_of_lt (List.length_take_le _ _) ?_)
        have := hV.hi
        omega
      · rw [upd_upd, List.take_add_one, List.getElem?_map, hq']
        simp
    · rintro G rfl
      rw [hL]
      have s4 := s3.trans (same_new (o := .lst (((ps.map (·.1)).take i).map V.str)) hD)
      have hqm : q ∈ ps := List.mem_of_getElem? hq
      have nn : isName q.1 = true := hV.nm q hqm
      have pp := hV.pc q hqm
      refine ⟨_, rfl, C, mc, _, u1, rfl, cr, cv1, rfl, _, rfl, ?_⟩
      refine iteD (fun h0 => ?_) (fun h0 => ?_)
      · have := vint.mp h0
        have := hV.hi
        omega
      refine ⟨_, rfl, q.1, rfl, ?_, fun bb H5 eb s5 => ?_⟩
      · have h8 : isName q.1 = true := nn
        unfold isName at h8
        simp only [Bool.and_eq_true, decide_eq_true_eq] at h8
        omega
      rw [nn] at eb
      subst eb
      refine ⟨_, rfl, iteF ?_⟩
      refine ⟨_, rfl, _, _, rfl, rfl, _, rfl, ?_⟩
      rw [decide_eq_true pp.1]
      refine iteT ⟨C, mc, _, u2, rfl, cr, cv2, _, _, rfl, rfl, _, rfl, ?_⟩
      rw [decide_eq_true pp.2]
      refine iteF ?_
      refine ⟨_, rfl, _, rfl, D, _, rfl, .inl (s5.seq (SqL.of upd_same)), rfl, strs_flat _, _, rfl, ?_⟩
      have hin : inV (.str q.1) (((ps.map (·.1)).take i).map V.str) = false := by
        rw [inV_strs]
        refine decide_eq_false fun hm => ?_
        have hnd := hV.nd
        rw [← List.take_append_drop i (ps.map (·.1))] at hnd
        refine List.nodup_append.mp hnd |>.2.2 q.1 hm q.1 ?_ rfl
        have e : (ps.map (·.1))[i]? = some q.1 := by rw [List.getElem?_map, hq]; rfl
        rw [List.drop_eq_getElem_cons (by rw [List.length_map]; exact hiL)]
        rw [List.getElem?_eq_getElem (by rw [List.length_map]; exact hiL)] at e
        rw [Option.some.inj e]
        exact List.mem_cons_self
      rw [hin]
      refine iteF ?_
      exact ⟨_, _, _, _, rfl, s4.trans s5⟩
  · rintro σ H' ⟨v1, v2, v3, v4, rfl, s1⟩
    refine ⟨_, rfl, p, xs, rfl, .inr (s1.seqT hpT), _, _, rfl, rfl, _, rfl, ?_⟩
    rw [decide_eq_false (by have := hV.lo; omega)]
    refine iteF ?_
    refine ⟨_, rfl, _, rfl, a, C, dx, [], rfl, s1 _ _ ha, L.cl, L.nC, (by show 0 < 1000; decide), ?_⟩
    refine k _ (fun b o e => ?_) upd_same
    have nb : b ≠ a := fun z => by rw [z, delH_same] at e; cases e
    rw [delH_ne nb] at e
    rw [upd_ne nb]
    exact s1 _ _ e
end
end Bk
/-! ### equal values of the same kind -/
namespace Bk
open PySem PySem.Spec PyProof.Rows L2
def Fit : Nat → PyData → Prop
  | _, .none => True
  | _, .bool _ => True
  | _, .int _ => True
  | _, .str _ => True
  | 0, .list _ => False
  | 0, .tuple _ => False
  | n + 1, .list xs => xs.length ≤ 3000 ∧ ∀ x ∈ xs, Fit n x
  | n + 1, .tuple xs => xs.length ≤ 3000 ∧ ∀ x ∈ xs, Fit n x
  | _, .dict _ => False
def spEq (K : PySem.W.Frag) (n : Nat) : Sp := fun vs H Q _ => ∃ x y d, vs = [x, y] ∧ Dp K H x d ∧ Dp K H y d ∧ Fit n d ∧ ∀ H', Same H H' → Q (.bl true) H'
def spEqP (K : PySem.W.Frag) : Nat → Sp
  | 0 => fun _ _ _ _ => False
  | n + 1 => spEq K n
theorem tyx_l {K : PySem.W.Frag} {H : Hp} {a : Addr} {xs : List V} (h : SqL K H a xs) : TyX K H (.ref a) (.type "list") := by
  rcases h with (h | ⟨o, h⟩) | ⟨o, its, n, h1, h2, _⟩
  · exact .base (.lst h)
  · exact .base (.frz h)
  · exact .kList h1 h2
theorem tyx_t {K : PySem.W.Frag} {H : Hp} {a : Addr} {xs : List V} (h : SqT K H a xs) : TyX K H (.ref a) (.type "tuple") := by
  rcases h with (h | ⟨o, h⟩) | ⟨o, its, n, h1, h2, _⟩
  · exact .base (.tup h)
  · exact .fTuple h
  · exact .kTuple h1 h2
section
variable {P : Program} {w : World} {K : PySem.W.Frag} {mg : Str → Option Value} {base : Heap}
abbrev s__law_equal : Stmt := top 43
theorem sc__law_equal : FnScope ["_law_actual", "_law_expected", "_law_k"] ["_law_actual", "_law_expected"] (defScope s__law_equal) := ⟨rfl, rfl, rfl, by decide +kernel, rfl, by decide +kernel, by decide +kernel⟩

theorem eq_body {f : Addr} {fd : FuncData} {n : Nat} (F : FnP K "_law_equal" "_law_equal" s__law_equal f fd) (T : Tx mg) (cEq : C8.Cal P w K mg base n "_law_equal" (spEqP K n) []) : FnOk P w K mg base CX0 (n + 1) f fd ["_law_actual", "_law_expected"] (spEq K n) := by
  refine F.ok sc__law_equal (fun vs H Q E h => ?_) (fun cdv A outer s H vs Q E hr h => ?_)
  · obtain ⟨x, y, d, rfl, _⟩ := h
    rfl
  · obtain ⟨x, y, d, rfl, hx, hy, hf, k⟩ := h
    refine ⟨_, PSs.nox 
      (pss_cons (ps_if (pt_cmpR op_isN (pv 1) pe_non (nomark _)) 
        (pss_one (ps_ret (pe_cmpR op_isN (pv 0) pe_non (nomark _)))) pss_nil)
      (pss_cons (ps_if (pt_val (pe_callB (c_isi K) (by rfl) T.f_isinstance (by decide +kernel) (pa_cons (pv 1) (pa_cons (pe_bltn (v := .ty "bool") (by rfl) T.f_bool (by decide +kernel) rfl) pa_nil)))) 
        (pss_one (ps_ret (pe_and (pe_callB (c_isi K) (by rfl) T.f_isinstance (by decide +kernel) (pa_cons (pv 0) (pa_cons (pe_bltn (v := .ty "bool") (by rfl) T.f_bool (by decide +kernel) rfl) pa_nil))) (pe_one (pe_cmpR op_eq (pv 0) (pv 1) (nomark _)))))) pss_nil)
      (pss_cons (ps_if (pt_val (pe_callB (c_isi K) (by rfl) T.f_isinstance (by decide +kernel) (pa_cons (pv 1) (pa_cons (pe_bltn (v := .ty "int") (by rfl) T.f_int (by decide +kernel) rfl) pa_nil)))) 
        (pss_one (ps_ret (pe_and (pe_callB (c_isi K) (by rfl) T.f_isinstance (by decide +kernel) (pa_cons (pv 0) (pa_cons (pe_bltn (v := .ty "int") (by rfl) T.f_int (by decide +kernel) rfl) pa_nil))) (pe_and (pe_not (pe_callB (c_isi K) (by rfl) T.f_isinstance (by decide +kernel) (pa_cons (pv 0) (pa_cons (pe_bltn (v := .ty "bool") (by rfl) T.f_bool (by decide +kernel) rfl) pa_nil)))) (pe_one (pe_cmpR op_eq (pv 0) (pv 1) (nomark _))))))) pss_nil)
      (pss_cons (ps_if (pt_val (pe_callB (c_isi K) (by rfl) T.f_isinstance (by decide +kernel) (pa_cons (pv 1) (pa_cons (pe_bltn (v := .ty "str") (by rfl) T.f_str (by decide +kernel) rfl) pa_nil)))) 
        (pss_one (ps_ret (pe_and (pe_callB (c_isi K) (by rfl) T.f_isinstance (by decide +kernel) (pa_cons (pv 0) (pa_cons (pe_bltn (v := .ty "str") (by rfl) T.f_str (by decide +kernel) rfl) pa_nil))) (pe_one (pe_cmpR op_eq (pv 0) (pv 1) (nomark _)))))) pss_nil)
      (pss_cons (ps_if (pt_cmpR op_ne (pe_callB (c_isi K) (by rfl) T.f_isinstance (by decide +kernel) (pa_cons (pv 1) (pa_cons (pe_bltn (v := .ty "tuple") (by rfl) T.f_tuple (by decide +kernel) rfl) pa_nil))) (pe_callB (c_isi K) (by rfl) T.f_isinstance (by decide +kernel) (pa_cons (pv 0) (pa_cons (pe_bltn (v := .ty "tuple") (by rfl) T.f_tuple (by decide +kernel) rfl) pa_nil))) (nomark _)) 
        (pss_one (ps_ret pe_bl)) pss_nil)
      (pss_cons (ps_if (pt_cmpR op_ne (pe_callB (c_isi K) (by rfl) T.f_isinstance (by decide +kernel) (pa_cons (pv 1) (pa_cons (pe_bltn (v := .ty "list") (by rfl) T.f_list (by decide +kernel) rfl) pa_nil))) (pe_callB (c_isi K) (by rfl) T.f_isinstance (by decide +kernel) (pa_cons (pv 0) (pa_cons (pe_bltn (v := .ty "list") (by rfl) T.f_list (by decide +kernel) rfl) pa_nil))) (nomark _)) 
        (pss_one (ps_ret pe_bl)) pss_nil)
      (pss_cons (ps_if (pt_cmpR op_ne (pe_callB (c_len K) (by rfl) T.f_len PySem.boot_len (pa_cons (pv 0) pa_nil)) (pe_callB (c_len K) (by rfl) T.f_len PySem.boot_len (pa_cons (pv 1) pa_nil)) (nomark _)) 
        (pss_one (ps_ret pe_bl)) pss_nil)
      (pss_one (ps_ret (pe_callB (c_all K rfl) (by rfl) T.f_all (by decide +kernel) (pa_cons (pe_lc (own := [("_law_k", 2)]) rfl sc__law_equal.nd (pi_range1 rfl T.f_range (pa_cons (pe_callB (c_len K) (by rfl) T.f_len PySem.boot_len (pa_cons (pv 1) pa_nil)) pa_nil)) (blkOk_by (own := [("_law_k", 2)]) (N := ["_law_actual", "_law_expected", "_law_k"]) (sc := defScope s__law_equal) (by decide +kernel)) (fun _ _ _ _ _ => (pg_name (i := 2) sc__law_equal.nd rfl (Or.inl rfl))) (fun _ _ _ _ _ => pts_nil) (fun _ _ _ _ _ => (C8.pe_c cEq hr (Nat.le_refl _) rfl (pa_cons (pe_ix (ixQ K) (pv 0) (pv 2) (fun _ _ => rfl)) (pa_cons (pe_ix (ixQ K) (pv 1) (pv 2) (fun _ _ => rfl)) pa_nil))))) pa_nil))))))))))), ?_⟩
    have kt : ∀ {a b : String} {r : Bool}, kitB a b = some r → PySem.W.kitOne K (.type a) (.type b) = some r := fun h => kit_ty h
    cases d with
    | none =>
      obtain rfl := dp_non hx
      obtain rfl := dp_non hy
      exact ⟨_, rfl, rfl, _, rfl, iteT ⟨_, rfl, rfl, k _ (Same.refl _)⟩⟩
    | bool b =>
      obtain rfl := dp_bl hx
      obtain rfl := dp_bl hy
      refine ⟨_, rfl, rfl, _, rfl, iteF ?_⟩
      refine ⟨_, rfl, _, _, _, _, _, rfl, .ty _, .base (.bl b), kt (r := true) (by decide +kernel), _, rfl, iteT ?_⟩
      refine ⟨_, rfl, _, _, _, _, _, rfl, .ty _, .base (.bl b), kt (r := true) (by decide +kernel), _, rfl, iteT ?_⟩
      refine ⟨_, rfl, _, rfl, rfl, ?_⟩
      show Q (.bl (decide (V.bl b = V.bl b))) H
      rw [decide_eq_true rfl]
      exact k _ (Same.refl _)
    | int i =>
      obtain rfl := dp_int hx
      obtain rfl := dp_int hy
      refine ⟨_, rfl, rfl, _, rfl, iteF ?_⟩
      refine ⟨_, rfl, _, _, _, _, _, rfl, .ty _, .base (.int i), kt (r := false) (by decide +kernel), _, rfl, iteF ?_⟩
      refine ⟨_, rfl, _, _, _, _, _, rfl, .ty _, .base (.int i), kt (r := true) (by decide +kernel), _, rfl, iteT ?_⟩
      refine ⟨_, rfl, _, _, _, _, _, rfl, .ty _, .base (.int i), kt (r := true) (by decide +kernel), _, rfl, iteT ?_⟩
      refine ⟨_, rfl, _, _, _, _, _, rfl, .ty _, .base (.int i), kt (r := false) (by decide +kernel), _, rfl, _, rfl, iteT ?_⟩
      refine ⟨_, rfl, _, rfl, rfl, ?_⟩
      show Q (.bl (decide (V.int i = V.int i))) H
      rw [decide_eq_true rfl]
      exact k _ (Same.refl _)
    | str i =>
      obtain rfl := dp_str hx
      obtain rfl := dp_str hy
      refine ⟨_, rfl, rfl, _, rfl, iteF ?_⟩
      refine ⟨_, rfl, _, _, _, _, _, rfl, .ty _, .base (.str i), kt (r := false) (by decide +kernel), _, rfl, iteF ?_⟩
      refine ⟨_, rfl, _, _, _, _, _, rfl, .ty _, .base (.str i), kt (r := false) (by decide +kernel), _, rfl, iteF ?_⟩
      refine ⟨_, rfl, _, _, _, _, _, rfl, .ty _, .base (.str i), kt (r := true) (by decide +kernel), _, rfl, iteT ?_⟩
      refine ⟨_, rfl, _, _, _, _, _, rfl, .ty _, .base (.str i), kt (r := true) (by decide +kernel), _, rfl, iteT ?_⟩
      refine ⟨_, rfl, _, rfl, rfl, ?_⟩
      show Q (.bl (decide (V.str i = V.str i))) H
      rw [decide_eq_true rfl]
      exact k _ (Same.refl _)
    | dict kvs => cases hx
    | list ds =>
      obtain ⟨a, xs, rfl, ha, hxs⟩ := dp_lst hx
      obtain ⟨b, ys, rfl, hb, hys⟩ := dp_lst hy
      cases n with
      | zero => exact hf.elim
      | succ n =>
      obtain ⟨hl, hin⟩ := hf
      refine ⟨_, rfl, rfl, _, rfl, iteF ?_⟩
      refine ⟨_, rfl, _, _, _, _, _, rfl, .ty _, tyx_l hb, kt (r := false) (by decide +kernel), _, rfl, iteF ?_⟩
      refine ⟨_, rfl, _, _, _, _, _, rfl, .ty _, tyx_l hb, kt (r := false) (by decide +kernel), _, rfl, iteF ?_⟩
      refine ⟨_, rfl, _, _, _, _, _, rfl, .ty _, tyx_l hb, kt (r := false) (by decide +kernel), _, rfl, iteF ?_⟩
      refine ⟨_, rfl, _, _, _, _, _, rfl, .ty _, tyx_l hb, kt (r := false) (by decide +kernel), _, rfl, _, _, _, _, _, rfl, .ty _, tyx_l ha, kt (r := false) (by decide +kernel), rfl, _, rfl, iteF ?_⟩
      refine ⟨_, rfl, _, _, _, _, _, rfl, .ty _, tyx_l hb, kt (r := true) (by decide +kernel), _, rfl, _, _, _, _, _, rfl, .ty _, tyx_l ha, kt (r := true) (by decide +kernel), rfl, _, rfl, iteF ?_⟩
      have lx := hxs.len
      have ly := hys.len
      refine ⟨_, rfl, a, _, rfl, .inl ha, _, rfl, b, _, rfl, .inl hb, rfl, _, rfl, ?_⟩
      rw [lx, ly]
      refine iteNS rfl ?_
      refine ⟨_, rfl, b, ys, rfl, .inl hb, _, rfl, by omega, by omega, fun D hD => ?_⟩
      rw [ly]
      refine lc_it (walk_range (lo := 0) (n := ds.length)) (fun i G => Same H G ∧ H D = none ∧ G D = some (.lst (List.replicate i (.bl true)))) ⟨same_new hD, hD, upd_same⟩ (fun _ _ _ _ => trivial) ?_ ?_
      · rintro i x G G' hi ⟨s1, hD, g1⟩ ⟨rfl, rfl⟩
        obtain ⟨d, hd⟩ : ∃ d, ds[i]? = some d := ⟨ds[i], by simp [hi]⟩
        obtain ⟨vx, hvx, dx⟩ := hxs.at hd
        obtain ⟨vy, hvy, dy⟩ := hys.at hd
        refine ⟨rfl, _, rfl, _, rfl, .inl ⟨a, xs, _, vx, rfl, rfl, s1.seq ha, by rw [Int.zero_add]; exact atI_nat hvx, ?_⟩⟩
        refine ⟨_, rfl, _, rfl, .inl ⟨b, ys, _, vy, rfl, rfl, s1.seq hb, by rw [Int.zero_add]; exact atI_nat hvy, ?_⟩⟩
        refine ⟨vx, vy, d, rfl, dx.same s1, dy.same s1, hin d (List.mem_of_getElem? hd), fun H' s' => ?_⟩
        refine ⟨_, s' _ _ g1, ?_, same_mut (s1.trans s') hD, hD, ?_⟩
        · rw [List.length_replicate]
          exact szl (by omega)
        · rw [upd_same, List.replicate_succ']
      · rintro G ⟨s1, hD, g1⟩
        refine ⟨D, List.replicate ds.length true, rfl, SqL.of (by rw [g1]; simp), ?_⟩
        have e : (List.replicate ds.length true).all id = true := by simp
        rw [e]
        exact k _ s1
    | tuple ds =>
      obtain ⟨a, xs, rfl, ha, hxs⟩ := dp_tup hx
      obtain ⟨b, ys, rfl, hb, hys⟩ := dp_tup hy
      cases n with
      | zero => exact hf.elim
      | succ n =>
      obtain ⟨hl, hin⟩ := hf
      refine ⟨_, rfl, rfl, _, rfl, iteF ?_⟩
      refine ⟨_, rfl, _, _, _, _, _, rfl, .ty _, tyx_t hb, kt (r := false) (by decide +kernel), _, rfl, iteF ?_⟩
      refine ⟨_, rfl, _, _, _, _, _, rfl, .ty _, tyx_t hb, kt (r := false) (by decide +kernel), _, rfl, iteF ?_⟩
      refine ⟨_, rfl, _, _, _, _, _, rfl, .ty _, tyx_t hb, kt (r := false) (by decide +kernel), _, rfl, iteF ?_⟩
      refine ⟨_, rfl, _, _, _, _, _, rfl, .ty _, tyx_t hb, kt (r := true) (by decide +kernel), _, rfl, _, _, _, _, _, rfl, .ty _, tyx_t ha, kt (r := true) (by decide +kernel), rfl, _, rfl, iteF ?_⟩
      refine ⟨_, rfl, _, _, _, _, _, rfl, .ty _, tyx_t hb, kt (r := false) (by decide +kernel), _, rfl, _, _, _, _, _, rfl, .ty _, tyx_t ha, kt (r := false) (by decide +kernel), rfl, _, rfl, iteF ?_⟩
      have lx := hxs.len
      have ly := hys.len
      refine ⟨_, rfl, a, _, rfl, .inr ha, _, rfl, b, _, rfl, .inr hb, rfl, _, rfl, ?_⟩
      rw [lx, ly]
      refine iteNS rfl ?_
      refine ⟨_, rfl, b, ys, rfl, .inr hb, _, rfl, by omega, by omega, fun D hD => ?_⟩
      rw [ly]
      refine lc_it (walk_range (lo := 0) (n := ds.length)) (fun i G => Same H G ∧ H D = none ∧ G D = some (.lst (List.replicate i (.bl true)))) ⟨same_new hD, hD, upd_same⟩ (fun _ _ _ _ => trivial) ?_ ?_
      · rintro i x G G' hi ⟨s1, hD, g1⟩ ⟨rfl, rfl⟩
        obtain ⟨d, hd⟩ : ∃ d, ds[i]? = some d := ⟨ds[i], by simp [hi]⟩
        obtain ⟨vx, hvx, dx⟩ := hxs.at hd
        obtain ⟨vy, hvy, dy⟩ := hys.at hd
        refine ⟨rfl, _, rfl, _, rfl, .inr (.inl ⟨a, xs, _, vx, rfl, rfl, s1.seqT ha, by rw [Int.zero_add]; exact atI_nat hvx, ?_⟩)⟩
        refine ⟨_, rfl, _, rfl, .inr (.inl ⟨b, ys, _, vy, rfl, rfl, s1.seqT hb, by rw [Int.zero_add]; exact atI_nat hvy, ?_⟩)⟩
        refine ⟨vx, vy, d, rfl, dx.same s1, dy.same s1, hin d (List.mem_of_getElem? hd), fun H' s' => ?_⟩
        refine ⟨_, s' _ _ g1, ?_, same_mut (s1.trans s') hD, hD, ?_⟩
        · rw [List.length_replicate]
          exact szl (by omega)
        · rw [upd_same, List.replicate_succ']
      · rintro G ⟨s1, hD, g1⟩
        refine ⟨D, List.replicate ds.length true, rfl, SqL.of (by rw [g1]; simp), ?_⟩
        have e : (List.replicate ds.length true).all id = true := by simp
        rw [e]
        exact k _ s1
theorem ok_equal {f : Addr} {fd : FuncData} (F : FnP K "_law_equal" "_law_equal" s__law_equal f fd) (T : Tx mg) (gm : mg "_law_equal" = some (.ref f)) (b : Binds K fd ["_law_actual", "_law_expected"] []) :
    ∀ n, C8.Cal P w K mg base (n + 1) "_law_equal" (spEq K n) []
  | 0 => ⟨f, fd, _, _, eq_body (n := 0) F T ⟨f, fd, _, _, ⟨fun _ _ _ _ z => False.elim z, fun _ _ _ _ _ _ _ _ _ _ _ _ _ z => False.elim z⟩, gm, F.kp, b, .nil⟩, gm, F.kp, b, .nil⟩
  | n + 1 => ⟨f, fd, _, _, eq_body (n := n + 1) F T (ok_equal F T gm b n), gm, F.kp, b, .nil⟩
end
end Bk
/-! ### numbers, texts of lines -/
namespace Bk
open PySem PySem.Spec PyProof.Rows L2
def digits : List Nat := ("0123456789" : Str).cps.toList
def isNum (s : Str) (n : Int) : Bool := (decide ((1 : Int) ≤ s.length) && (decide ((s.length : Int) ≤ n) && s.cps.toList.all fun c => decide (c ∈ digits))) && (decide (V.int s.length = V.int 1) || !decide (V.str ⟨#[s.cps.toList.headD 0]⟩ = V.str "0"))
def spIsNum : Sp := fun vs H Q _ => ∃ (s : Str) (n : Int), vs = [.str s, .int n] ∧ s.length ≤ 100000 ∧ ∀ b H', b = isNum s n → Same H H' → Q (.bl b) H'
def numS (n : Int) : Str := Str.ofString (toString n)
def rowOf (p : Person) : Str := p.1 ++ (" " : Str) ++ numS p.2
def wordsOf (ps : List Person) : Str := Txt.join "\n" (ps.map rowOf)
theorem isName_letters {s : Str} (h : isName s = true) : ∀ c ∈ TL.tl s, 97 ≤ c ∧ c ≤ 122 := by
  unfold isName at h
  simp only [Bool.and_eq_true, List.all_eq_true, decide_eq_true_eq] at h
  intro c hc
  have h2 : c ∈ letters := h.2.2 c hc
  have h3 : letters.all (fun c => decide (97 ≤ c ∧ c ≤ 122)) = true := by decide +kernel
  exact of_decide_eq_true (List.all_eq_true.mp h3 c h2)
theorem isName_len {s : Str} (h : isName s = true) : 1 ≤ s.length ∧ s.length ≤ 8 := by
  unfold isName at h
  simp only [Bool.and_eq_true, decide_eq_true_eq] at h
  omega
theorem numS_nat (n : Nat) : TL.tl (numS (n : Int)) = TL.numL n := TL.tl_num n
theorem numL_len4 {n : Nat} (h : n ≤ 1000) : (TL.numL n).length ≤ 4 := TL.numL_len (by decide) (Nat.lt_of_le_of_lt h (by decide))
theorem pace_nat {p : Person} (h : 1 ≤ p.2 ∧ p.2 ≤ 1000) : ∃ n : Nat, p.2 = (n : Int) ∧ 1 ≤ n ∧ n ≤ 1000 := ⟨p.2.toNat, by omega, by omega, by omega⟩
theorem tl_sp : TL.tl (" " : Str) = [32] := by decide +kernel
theorem tl_nl : TL.tl ("\n" : Str) = [10] := by decide +kernel
theorem tl_row {p : Person} {n : Nat} (h : p.2 = (n : Int)) : TL.tl (rowOf p) = TL.tl p.1 ++ ([32] ++ TL.numL n) := by
  unfold rowOf
  rw [TL.tl_append, TL.tl_append, h, numS_nat, tl_sp, List.append_assoc]
theorem row_free {p : Person} (h : isName p.1 = true) (h2 : 1 ≤ p.2 ∧ p.2 ≤ 1000) : 10 ∉ TL.tl (rowOf p) := by
  obtain ⟨n, e, h3, h4⟩ := pace_nat h2
  rw [tl_row e]
  intro hm
  rcases List.mem_append.mp hm with hm | hm
  · have := isName_letters h _ hm
    omega
  · rcases List.mem_append.mp hm with hm | hm
    · simp at hm
    · exact TL.numL_free (.inl (by decide)) hm
theorem split_rows {ps : List Person} (hV : Valid ps) : Txt.split (wordsOf ps) "\n" = ps.map rowOf := by
  unfold wordsOf
  refine TL.split_join (s := 10) (S := []) tl_nl (by decide +kernel) ?_ ?_
  · intro e
    have := hV.lo
    rw [List.map_eq_nil_iff.mp e] at this
    simp at this
  · intro r hr
    obtain ⟨p, hp, rfl⟩ := List.mem_map.mp hr
    exact row_free (hV.nm p hp) (hV.pc p hp)
theorem split_row {p : Person} (h : isName p.1 = true) (h2 : 1 ≤ p.2 ∧ p.2 ≤ 1000) : Txt.split (rowOf p) " " = [p.1, numS p.2] := by
  obtain ⟨n, e, h3, h4⟩ := pace_nat h2
  have e1 : rowOf p = Txt.join " " [p.1, numS p.2] := by
    refine TL.ext_tl ?_
    rw [TL.join_eq, TL.tl_join, tl_row e, tl_sp]
    show _ = TL.tl p.1 ++ ([32] ++ TL.tl (numS p.2))
    rw [e, numS_nat]
  rw [e1]
  refine TL.split_join (s := 32) (S := []) tl_sp (by decide +kernel) (by simp) ?_
  intro r hr
  rcases List.mem_cons.mp hr with rfl | hr
  · intro hm
    have := isName_letters h _ hm
    omega
  · rw [List.mem_singleton.mp hr, e, numS_nat]
    exact TL.numL_free (.inl (by decide))
theorem numS_len {p : Person} (h2 : 1 ≤ p.2 ∧ p.2 ≤ 1000) : (numS p.2).length ≤ 4 := by
  obtain ⟨n, e, h3, h4⟩ := pace_nat h2
  rw [TL.len_tl, e, numS_nat]
  exact numL_len4 h4
theorem row_len {p : Person} (h : isName p.1 = true) (h2 : 1 ≤ p.2 ∧ p.2 ≤ 1000) : (rowOf p).length ≤ 13 := by
  obtain ⟨n, e, h3, h4⟩ := pace_nat h2
  rw [TL.len_tl, tl_row e, List.length_append, List.length_append]
  have := isName_len h
  have := numL_len4 h4
  have := TL.len_tl p.1
  show (TL.tl p.1).length + (1 + (TL.numL n).length) ≤ 13
  omega
theorem int_numS {p : Person} (h2 : 1 ≤ p.2 ∧ p.2 ≤ 1000) : PySem.intText? (numS p.2) = some p.2 := by
  obtain ⟨n, e, h3, h4⟩ := pace_nat h2
  rw [e]
  exact TL.int_num (Nat.le_trans (numL_len4 h4) (by decide))
theorem numL_head {n : Nat} (h1 : 1 ≤ n) (h2 : n ≤ 1000) : 49 ≤ (TL.numL n).headD 0 := by
  by_cases a : n < 10
  · rw [TL.numL_lt a]
    show 49 ≤ 48 + n
    omega
  · by_cases b : n < 100
    · rw [TL.numL_step (by omega), TL.numL_lt (n := n / 10) (by omega)]
      show 49 ≤ 48 + n / 10
      omega
    · by_cases c : n < 1000
      · rw [TL.numL_step (by omega), TL.numL_step (n := n / 10) (by omega), TL.numL_lt (n := n / 10 / 10) (by omega)]
        show 49 ≤ 48 + n / 10 / 10
        omega
      · have : n = 1000 := by omega
        subst this
        decide +kernel
theorem isNum_pace {p : Person} (h2 : 1 ≤ p.2 ∧ p.2 ≤ 1000) : isNum (numS p.2) 4 = true := by
  obtain ⟨n, e, h3, h4⟩ := pace_nat h2
  have tl4 := numS_nat n
  have l4 := numL_len4 h4
  have l0 : 1 ≤ (TL.numL n).length := by
    cases q : TL.numL n with
    | nil => exact absurd q (TL.numL_ne n)
    | cons _ _ => simp
  have el : (numS (n : Int)).length = (TL.numL n).length := by rw [TL.len_tl, tl4]
  have hd := numL_head h3 h4
  unfold isNum
  rw [e, el, show (numS (n : Int)).cps.toList = TL.numL n from tl4]
  have hall : ((TL.numL n).all fun c => decide (c ∈ digits)) = true := by
    rw [List.all_eq_true]
    intro c hc
    have h5 := TL.numL_digits n c hc
    have h6 : 48 ≤ c ∧ c ≤ 57 := h5
    have h7 : ∀ c : Nat, c < 58 → 48 ≤ c → decide (c ∈ digits) = true := by decide +kernel
    exact h7 c (by omega) h6.1
  rw [hall]
  have hne : ¬ V.str ⟨#[(TL.numL n).headD 0]⟩ = V.str "0" := by
    intro h
    have h8 := vstr.mp h
    have h9 : TL.tl ⟨#[(TL.numL n).headD 0]⟩ = TL.tl ("0" : Str) := by rw [h8]
    have h10 : TL.tl ("0" : Str) = [48] := by decide +kernel
    rw [h10] at h9
    have h11 : [(TL.numL n).headD 0] = [48] := h9
    have h12 := (List.cons.inj h11).1
    omega
  rw [decide_eq_false hne, decide_eq_true (show (1 : Int) ≤ (((TL.numL n).length : Nat) : Int) by omega), decide_eq_true (show (((TL.numL n).length : Nat) : Int) ≤ 4 by omega)]
  simp
theorem words_len {ps : List Person} (hV : Valid ps) : (wordsOf ps).length ≤ 1000 := by
  unfold wordsOf
  rw [TL.join_eq, TL.len_tl, TL.tl_join, tl_nl]
  have gen : ∀ ls : List (List Nat), (∀ l ∈ ls, l.length ≤ 13) → (TL.joinL [10] ls).length ≤ ls.length * 14 := by
    intro ls
    induction ls with
    | nil => intro _; simp [TL.joinL]
    | cons l ls ih =>
      intro h
      have h1 := h l (by simp)
      have h2 := ih fun x hx => h x (by simp [hx])
      cases ls with
      | nil => simp [TL.joinL]; omega
      | cons m ms =>
        show (l ++ ([10] ++ TL.joinL [10] (m :: ms))).length ≤ _
        rw [List.length_append, List.length_append]
        simp only [List.length_cons, List.length_nil] at h2 ⊢
        omega
  have h := gen ((ps.map rowOf).map TL.tl) (by
    intro l hl
    obtain ⟨r, hr, rfl⟩ := List.mem_map.mp hl
    obtain ⟨p, hp, rfl⟩ := List.mem_map.mp hr
    rw [← TL.len_tl]
    exact row_len (hV.nm p hp) (hV.pc p hp))
  rw [List.length_map, List.length_map] at h
  have := hV.hi
  omega
end Bk
/-! ### random people -/
namespace Bk
open PySem PySem.Spec PyProof.Rows L2
def stdNames : List Str := ["a", "bo", "carl", "dora", "ella", "f", "gustav", "hannah", "iris", "jo", "k", "lllllllz"]
theorem std_name : ∀ x ∈ stdNames, isName x = true := by
  have h : stdNames.all isName = true := by decide +kernel
  exact List.all_eq_true.mp h
theorem std_ok : ∀ x ∈ stdNames, PyData.strOk x = true := by
  have h : stdNames.all PyData.strOk = true := by decide +kernel
  exact List.all_eq_true.mp h
theorem std_nd : stdNames.Nodup := by decide +kernel
theorem ixN_of {n : Nat} {r : Int} (h0 : 0 ≤ r) (h1 : r < n) : ixN n r = some r.toNat := by
  unfold ixN
  rw [if_pos h0, if_pos h1]
theorem canLay_strs : ∀ l : List Str, (∀ x ∈ l, PyData.strOk x = true) → PyData.canLayAll0 (l.map PyData.str) = true
  | [], _ => rfl
  | x :: l, h => by
    show (PyData.canLay0 (.str x) && PyData.canLayAll0 (l.map PyData.str)) = true
    rw [canLay_strs l fun y hy => h y (by simp [hy])]
    have h1 : PyData.canLay0 (.str x) = true := h x (by simp)
    rw [h1]
    rfl
theorem depth_strs : ∀ l : List Str, PyData.depthAll (l.map PyData.str) = 0
  | [] => rfl
  | x :: l => by
    show max (PyData.depth (.str x)) (PyData.depthAll (l.map PyData.str)) = 0
    rw [depth_strs l]
    rfl
theorem shaped_strs {l : List Str} (h : ∀ x ∈ l, PyData.strOk x = true) : SeqAt.shaped (.list (l.map PyData.str)) = true := by
  unfold SeqAt.shaped
  have h1 : PyData.canLay0 (.list (l.map PyData.str)) = true := canLay_strs l h
  have h2 : PyData.depth (.list (l.map PyData.str)) = 1 := by
    show PyData.depthAll (l.map PyData.str) + 1 = 1
    rw [depth_strs]
  rw [h1, h2]
  rfl
theorem eqv_nil : ∀ ds : List PyData, PyData.eqv (.list ds) (.list []) = ds.isEmpty
  | [] => rfl
  | _ :: _ => rfl
theorem map_erase {α β : Type} (f : α → β) : ∀ (l : List α) (k : Nat), (l.map f).eraseIdx k = (l.eraseIdx k).map f
  | [], _ => rfl
  | _ :: _, 0 => rfl
  | a :: l, k + 1 => by
    show f a :: (l.map f).eraseIdx k = f a :: (l.eraseIdx k).map f
    rw [map_erase f l k]
theorem erase_perm {α : Type} : ∀ (l : List α) (k : Nat) (h : k < l.length), (l[k] :: l.eraseIdx k).Perm l
  | a :: l, 0, _ => List.Perm.refl _
  | a :: l, k + 1, h => by
    have h' : k < l.length := by simpa using h
    exact (List.Perm.swap _ _ _).trans ((erase_perm l k h').cons a)
def spShuf (K : PySem.W.Frag) : Sp := fun vs H Q _ => ∃ (d a : Addr) (l : List Int) (xs : List Str), vs = [.ref d, .ref a] ∧ H d = some (.lst (ivs l)) ∧ Src l ∧ a ≠ d ∧ SqL K H a (xs.map V.str) ∧ (∀ x ∈ xs, PyData.strOk x = true) ∧ xs.length ≤ 1000 ∧
  ∀ (H' : Hp) (p : Addr) (l' : List Int) (ys : List Str), ys.Perm xs → Src l' → Same (delH H d) H' → H' d = some (.lst (ivs l')) → H p = none → H' p = some (.lst (ys.map V.str)) → Q (.ref p) H'
def spPeople (K : PySem.W.Frag) : Sp := fun vs H Q _ => ∃ (d : Addr) (l : List Int) (most : Int), vs = [.ref d, .int most] ∧ H d = some (.lst (ivs l)) ∧ Src l ∧ 2 ≤ most ∧ most ≤ 12 ∧
  ∀ H' p l' ps, Valid ps → (ps.length : Int) ≤ most → (∀ q ∈ ps, q.1 ∈ stdNames) → Src l' → Same (delH H d) H' → H' d = some (.lst (ivs l')) → H p = none → Own K (delH H' d) p (pyPs ps) → Q (.ref p) H'
section
variable {P : Program} {w : World} {K : PySem.W.Frag} {mg : Str → Option Value} {base : Heap}
abbrev s__law_shuffled : Stmt := top 37
theorem sc__law_shuffled : FnScope ["_law_d", "_law_items", "_law_pool", "_law_result"] ["_law_d", "_law_items"] (defScope s__law_shuffled) := ⟨rfl, rfl, rfl, by decide +kernel, rfl, by decide +kernel, by decide +kernel⟩

theorem ok_shuf {f : Addr} {fd : FuncData} (F : FnP K "_law_shuffled" "_law_shuffled" s__law_shuffled f fd) (T : Tx mg) (cBelow : C8.Cal P w K mg base 1 "_law_below" spBelow []) : FnOk P w K mg base CX0 2 f fd ["_law_d", "_law_items"] (spShuf K) := by
  refine F.ok sc__law_shuffled (fun vs H Q E h => ?_) (fun cdv A outer s H vs Q E hr h => ?_)
  · obtain ⟨_, _, _, _, rfl, _⟩ := h
    rfl
  · obtain ⟨d, a, l, xs, rfl, hd, hs, had, hS, hok, hlen, k⟩ := h
    refine ⟨_, PSs.nox 
      (pss_cons (ps_set (i := 2) sc__law_shuffled.nd rfl (.inl rfl) (pe_callTy (c_list K) (by rfl) T.f_list (by decide +kernel) (pa_cons (pv 1) pa_nil)))
      (pss_cons (ps_set (i := 3) sc__law_shuffled.nd rfl (.inl rfl) (pe_lst pa_nil))
      (pss_cons (ps_while PassesOwn.never (pt_cmpR (o_neD K hr.units) (pv 2) (pe_lst pa_nil) (nomark _)) 
        (pss_one (ps_expr (e_bm K PySem.F.plainAttrs_list PySem.F.slot_list_append PySem.F.type_list_append mt_append (pv 3) (pa_cons (e_bm K PySem.F.plainAttrs_list PySem.F.slot_list_pop PySem.F.type_list_pop mt_popAt (pv 2) (pa_cons (C8.pe_c cBelow hr (by decide) rfl (pa_cons (pv 0) (pa_cons (pe_callB (c_len K) (by rfl) T.f_len PySem.boot_len (pa_cons (pv 2) pa_nil)) pa_nil))) pa_nil)) pa_nil)))))
      (pss_one (ps_ret (pv 3)))))), ?_⟩
    refine ⟨_, rfl, a, _, rfl, .inl hS, fun pl hpl => ?_⟩
    refine ⟨Nat.zero_le _, fun rl hrl => ?_⟩
    have hrp : rl ≠ pl := fun e => by rw [e, upd_same] at hrl; cases hrl
    have hrl0 : H rl = none := by rw [upd_ne hrp] at hrl; exact hrl
    have hdp : d ≠ pl := ne_of_none hd hpl
    have hdr : d ≠ rl := ne_of_none hd hrl0
    refine ⟨fun m σ H' => ∃ (l' : List Int) (pool res : List Str), σ = [some (.ref d), some (.ref a), some (.ref pl), some (.ref rl)] ∧ m = pool.length ∧ H' d = some (.lst (ivs l')) ∧ Src l' ∧ H' pl = some (.lst (pool.map V.str)) ∧ H' rl = some (.lst (res.map V.str)) ∧
      Same (delH H d) H' ∧ (res ++ pool).Perm xs, ⟨xs.length, l, xs, [], rfl, rfl, ?_, hs, ?_, upd_same, ?_, List.Perm.refl _⟩, ?_⟩
    · rw [upd_ne hdr, upd_ne hdp]; exact hd
    · rw [upd_ne (Ne.symm hrp)]; exact upd_same
    · exact (same_del.trans (same_new hpl)).trans (same_new hrl)
    · rintro m σ H' ⟨l', pool, res, rfl, rfl, h1, h2, h3, h4, h5, hp⟩
      have hlen2 := hp.length_eq
      rw [List.length_append] at hlen2
      refine ⟨_, rfl, Nat.zero_le _, fun e he => ?_⟩
      have s1 : Same H' (upd H' e (.lst [])) := same_new he
      refine ⟨_, _, dp_mk_lst (s1 _ _ h3) (dps_strs pool), dp_mk_lst upd_same .nil, shaped_strs fun x hx => hok x (hp.mem_iff.mp (by simp [hx])), by decide +kernel, _, rfl, ?_⟩
      rw [eqv_nil]
      generalize upd H' e (.lst []) = H1 at *
      cases pool with
      | nil =>
        refine iteF ?_
        refine ⟨_, rfl, ?_⟩
        refine k H1 rl l' res (by simpa using hp) h2 (h5.trans s1) (s1 _ _ h1) hrl0 (s1 _ _ h4)
      | cons z pool =>
        refine iteT ?_
        refine ⟨fun σ2 H2 => ∃ (l' : List Int) (pool' res : List Str), σ2 = [some (.ref d), some (.ref a), some (.ref pl), some (.ref rl)] ∧ pool'.length = pool.length ∧ H2 d = some (.lst (ivs l')) ∧ Src l' ∧ H2 pl = some (.lst (pool'.map V.str)) ∧ H2 rl = some (.lst (res.map V.str)) ∧
          Same (delH H d) H2 ∧ (res ++ pool').Perm xs, ?_, ?_⟩
        · rintro σ2 H2 ⟨l', pool', res, e1, e2, e3⟩
          exact ⟨pool'.length, by simp [e2], l', pool', res, e1, rfl, e3⟩
        · refine ⟨_, rfl, .inl ⟨rfl, _, SqL.of (s1 _ _ h4)⟩, _, rfl, .inl ⟨rfl, _, SqL.of (s1 _ _ h3)⟩, _, rfl, _, rfl, pl, _, rfl, .inl (SqL.of (s1 _ _ h3)), ?_⟩
          refine ⟨d, l', _, rfl, s1 _ _ h1, h2, ?_, ?_, fun r l2 r0 r1 src2 hl2 => ?_⟩
          · rw [List.length_map, List.length_cons]; omega
          · rw [List.length_map]; omega
          rw [List.length_map] at r1
          have hk : r.toNat < (z :: pool).length := by omega
          have hH2pl : upd H1 d (.lst (ivs l2)) pl = some (.lst ((z :: pool).map V.str)) := by rw [upd_ne (Ne.symm hdp)]; exact s1 _ _ h3
          have hH2rl : upd H1 d (.lst (ivs l2)) rl = some (.lst (res.map V.str)) := by rw [upd_ne (Ne.symm hdr)]; exact s1 _ _ h4
          refine ⟨pl, _, r, r.toNat, .str ((z :: pool)[r.toNat]), rfl, rfl, hH2pl, by omega, by omega, ?_, ?_, ?_⟩
          · rw [List.length_map]
            exact (ixN_seq (ixN_of r0 r1)).1
          · rw [List.getElem?_map, List.getElem?_eq_getElem hk]
            rfl
          refine ⟨rl, _, _, rfl, rfl, by rw [upd_ne hrp]; exact hH2rl, ?_, l2, (z :: pool).eraseIdx r.toNat, res ++ [(z :: pool)[r.toNat]], rfl, ?_, ?_, src2, ?_, ?_, ?_, ?_⟩
          · rw [List.length_map]
            exact szl (by omega)
          · rw [List.length_eraseIdx_of_lt hk]
            rfl
          · rw [upd_ne hdr, upd_ne hdp]; exact upd_same
          · rw [upd_ne (Ne.symm hrp), upd_same, map_erase]
          · rw [upd_same, List.map_append]
            rfl
          · have hd0 : delH H d pl = none := by rw [delH_ne (Ne.symm hdp)]; exact hpl
            have hd1 : delH H d rl = none := by rw [delH_ne (Ne.symm hdr)]; exact hrl0
            exact same_mut (same_mut (same_mut (h5.trans s1) delH_same) hd0) hd1
          · refine List.Perm.trans ?_ hp
            rw [List.append_assoc]
            exact List.Perm.append_left _ (erase_perm _ _ hk)
abbrev s__law_people : Stmt := top 38
theorem sc__law_people : FnScope ["_law_d", "_law_most", "_law_names", "_law_top", "_law_found", "_law_k"] ["_law_d", "_law_most"] (defScope s__law_people) := ⟨rfl, rfl, rfl, by decide +kernel, rfl, by decide +kernel, by decide +kernel⟩

theorem pick3 {r : Int} (h0 : 0 ≤ r) (h1 : r < 3) : ∃ t : Int, atI [V.int 3, V.int 9, V.int 1000] r = some (.int t) ∧ 1 ≤ t ∧ t ≤ 1000 := by
  have h : r = 0 ∨ r = 1 ∨ r = 2 := by omega
  rcases h with rfl | rfl | rfl
  · exact ⟨3, rfl, by decide, by decide⟩
  · exact ⟨9, rfl, by decide, by decide⟩
  · exact ⟨1000, rfl, by decide, by decide⟩
theorem ok_people {f : Addr} {fd : FuncData} (F : FnP K "_law_people" "_law_people" s__law_people f fd) (T : Tx mg) (cBelow : C8.Cal P w K mg base 1 "_law_below" spBelow []) (cShuf : C8.Cal P w K mg base 2 "_law_shuffled" (spShuf K) []) : FnOk P w K mg base CX0 3 f fd ["_law_d", "_law_most"] (spPeople K) := by
  refine F.ok sc__law_people (fun vs H Q E h => ?_) (fun cdv A outer s H vs Q E hr h => ?_)
  · obtain ⟨_, _, _, rfl, _⟩ := h
    rfl
  · obtain ⟨d, l, most, rfl, hd, hs, hm0, hm1, k⟩ := h
    refine ⟨_, PSs.nox 
      (pss_cons (ps_set (i := 2) sc__law_people.nd rfl (.inl rfl) (pe_lst (pa_cons pe_str (pa_cons pe_str (pa_cons pe_str (pa_cons pe_str (pa_cons pe_str (pa_cons pe_str (pa_cons pe_str (pa_cons pe_str (pa_cons pe_str (pa_cons pe_str (pa_cons pe_str (pa_cons pe_str pa_nil))))))))))))))
      (pss_cons (ps_set (i := 2) sc__law_people.nd rfl (.inl rfl) (C8.pe_c cShuf hr (by decide) rfl (pa_cons (pv 0) (pa_cons (pv 2) pa_nil))))
      (pss_cons (ps_par (i := 3) (j := 4) (by rfl) sc__law_people.nd rfl rfl (by decide) rfl rfl (pa_cons (pe_ix (ixL K) (pe_lst (pa_cons pe_int (pa_cons pe_int (pa_cons pe_int pa_nil)))) (C8.pe_c cBelow hr (by decide) rfl (pa_cons (pv 0) (pa_cons pe_int pa_nil))) (fun _ _ => rfl)) (pa_cons (pe_lst pa_nil) pa_nil)) (by rfl))
      (pss_cons (ps_for PassesOwn.never rfl (pi_range1 rfl T.f_range (pa_cons (pe_op op_add pe_int (C8.pe_c cBelow hr (by decide) rfl (pa_cons (pv 0) (pa_cons (pe_op op_sub (pv 1) pe_int) pa_nil)))) pa_nil)) (pg_name (i := 5) sc__law_people.nd rfl (Or.inl rfl)) 
        (pss_one (ps_expr (e_bm K PySem.F.plainAttrs_list PySem.F.slot_list_append PySem.F.type_list_append mt_append (pv 4) (pa_cons (pe_tup (pa_cons (pe_ix (ixL K) (pv 2) (pv 5) (fun _ _ => rfl)) (pa_cons (pe_op op_add pe_int (C8.pe_c cBelow hr (by decide) rfl (pa_cons (pv 0) (pa_cons (pv 3) pa_nil)))) pa_nil))) pa_nil)))))
      (pss_one (ps_ret (pv 4))))))), ?_⟩
    refine ⟨(by show 12 ≤ sizeLine; decide), fun n0 hn0 => ?_⟩
    have hdn : n0 ≠ d := fun e => by rw [e, hd] at hn0; cases hn0
    refine ⟨_, rfl, _, rfl, d, n0, l, stdNames, rfl, by rw [upd_ne (Ne.symm hdn)]; exact hd, hs, hdn, SqL.of upd_same, std_ok, by decide, fun H1 nm l1 ys hp src1 s1 h1d hnm h1n => ?_⟩
    have s01 : Same (delH H d) H1 := fun b o e => s1 b o (by
      have nb : b ≠ d := fun z => by rw [z, delH_same] at e; cases e
      rw [delH_ne nb] at e ⊢
      rw [upd_ne (ne_of_none e hn0)]
      exact e)
    have hnmd : nm ≠ d := fun e => by rw [e, upd_ne (Ne.symm hdn), hd] at hnm; cases hnm
    have ylen : ys.length = 12 := hp.length_eq
    -- top, found
    refine ⟨(by show 3 ≤ sizeLine; decide), fun t3 ht3 => ?_⟩
    have ht3d : t3 ≠ d := fun e => by rw [e, h1d] at ht3; cases ht3
    refine ⟨_, rfl, d, l1, 3, rfl, by rw [upd_ne (Ne.symm ht3d)]; exact h1d, src1, by decide, by decide, fun r2 l2 r20 r21 src2 hl2 => ?_⟩
    obtain ⟨top, htop, htop1, htop2⟩ := pick3 r20 r21
    refine ⟨t3, _, r2, _, rfl, rfl, SqL.of (by rw [upd_ne ht3d]; exact upd_same), htop, ?_⟩
    refine ⟨Nat.zero_le _, fun fl hfl => ?_⟩
    have hfd : fl ≠ d := fun e => by rw [e, upd_same] at hfl; cases hfl
    have hf1 : H1 fl = none := by
      rw [upd_ne hfd] at hfl
      exact (same_new ht3).free hfl
    have s03 : Same (delH H d) (upd (upd (upd H1 t3 (.lst [.int 3, .int 9, .int 1000])) d (.lst (ivs l2))) fl (.lst [])) :=
      (same_mut (s01.trans (same_new ht3)) delH_same).trans (same_new hfl)
    have h3d : upd (upd (upd H1 t3 (.lst [.int 3, .int 9, .int 1000])) d (.lst (ivs l2))) fl (.lst []) d = some (.lst (ivs l2)) := by rw [upd_ne (Ne.symm hfd)]; exact upd_same
    have h3f : upd (upd (upd H1 t3 (.lst [.int 3, .int 9, .int 1000])) d (.lst (ivs l2))) fl (.lst []) fl = some (.lst []) := upd_same
    have hnf : nm ≠ fl := ne_of_none h1n hf1
    have hnt : nm ≠ t3 := ne_of_none h1n ht3
    have h3n : upd (upd (upd H1 t3 (.lst [.int 3, .int 9, .int 1000])) d (.lst (ivs l2))) fl (.lst []) nm = some (.lst (ys.map V.str)) := by
      rw [upd_ne hnf, upd_ne hnmd, upd_ne hnt]; exact h1n
    have hf0 : H fl = none := by
      cases q : H fl with
      | none => rfl
      | some o =>
        have : delH H d fl = some o := by rw [delH_ne hfd]; exact q
        rw [s01 _ _ this] at hf1
        cases hf1
    generalize upd (upd (upd H1 t3 (.lst [.int 3, .int 9, .int 1000])) d (.lst (ivs l2))) fl (.lst []) = H3 at *
    refine ⟨_, _, rfl, ?_⟩
    -- for k in range(2 + below)
    refine ⟨_, rfl, _, rfl, _, _, rfl, rfl, d, l2, _, rfl, h3d, src2, by omega, by omega, fun r4 l4 r40 r41 src4 hl4 => ?_⟩
    refine ⟨_, _, rfl, rfl, _, rfl, by omega, by omega, ?_⟩
    have hn12 : ((2 + r4).toNat : Nat) ≤ 12 := by omega
    have s04 : Same (delH H d) (upd H3 d (.lst (ivs l4))) := same_mut s03 delH_same
    refine for_it (walk_range (lo := 0) (n := (2 + r4).toNat)) (fun i σ H' => ∃ (l' : List Int) (ps : List Person) (v5 : Option V), σ = [some (.ref d), some (.int most), some (.ref nm), some (.int top), some (.ref fl), v5] ∧ H' d = some (.lst (ivs l')) ∧ Src l' ∧
      H' nm = some (.lst (ys.map V.str)) ∧ Own K (delH H' d) fl (pyPs ps) ∧ Same (delH H d) H' ∧ ps.map (·.1) = ys.take i ∧ ∀ q ∈ ps, 1 ≤ q.2 ∧ q.2 ≤ 1000)
      ⟨l4, [], none, rfl, upd_same, src4, by rw [upd_ne hnmd]; exact h3n, Own.nil (by rw [delH_ne hfd, upd_ne hfd]; exact h3f), s04, rfl, by simp⟩ (fun _ _ _ _ _ => trivial) ?_ ?_
    · rintro i x σ H' H5 hi ⟨l', ps, v5, rfl, h1, h2, h3, ⟨us, h4, h5⟩, h6, h7, h8⟩ ⟨rfl, rfl⟩
      have h4' : H5 fl = some (.lst us) := same_del _ _ h4
      have hiy : i < ys.length := by omega
      have plen : ps.length = i := by
        have := congrArg List.length h7
        rw [List.length_map, List.length_take] at this
        omega
      have ulen : us.length = i := by rw [h5.len]; unfold pyPs; rw [List.length_map]; exact plen
      have eat : atI (ys.map V.str) (0 + (i : Int)) = some (.str ys[i]) := by
        rw [Int.zero_add]
        refine atI_nat ?_
        rw [List.getElem?_map, List.getElem?_eq_getElem hiy]
        rfl
      refine ⟨_, rfl, .inl ⟨rfl, _, SqL.of h4'⟩, _, rfl, _, rfl, nm, _, _, _, rfl, rfl, SqL.of h3, eat, ?_⟩
      refine ⟨_, rfl, _, rfl, d, l', top, rfl, h1, h2, htop1, by omega, fun r l6 r0 r1 src6 hl6 => ?_⟩
      refine ⟨_, _, rfl, rfl, (by show 2 ≤ sizeLine; decide), fun t ht => ?_⟩
      have htd : t ≠ d := fun e => by rw [e, upd_same] at ht; cases ht
      have ht5 : H5 t = none := by rw [upd_ne htd] at ht; exact ht
      have htf : t ≠ fl := fun e => by rw [e, h4'] at ht5; cases ht5
      have htn : t ≠ nm := fun e => by rw [e, h3] at ht5; cases ht5
      refine ⟨fl, us, _, rfl, rfl, by rw [upd_ne (Ne.symm htf), upd_ne hfd]; exact h4', szl (by omega), l6, ps ++ [(ys[i], 1 + r)], _, rfl, ?_, src6, ?_, ?_, ?_, ?_, ?_⟩
      · rw [upd_ne (Ne.symm hfd), upd_ne (Ne.symm htd)]; exact upd_same
      · rw [upd_ne hnf, upd_ne (Ne.symm htn), upd_ne hnmd]; exact h3
      · rw [del_upd_ne hfd, del_upd_ne htd, delH_upd]
        unfold pyPs
        rw [List.map_append]
        have ht6 : delH H5 d t = none := by rw [delH_ne htd]; exact ht5
        refine Own.push (h5.same (del_new htf ht6)) ?_
        exact dp_mk_tup (by rw [delH_ne htf]; exact upd_same) (.cons (.str _) (.cons (.int _) .nil))
      · have g1 : delH H d fl = none := by rw [delH_ne hfd]; exact hf0
        exact same_mut ((same_mut h6 delH_same).trans (same_new ht)) g1
      · rw [List.map_append, h7, List.take_add_one, List.getElem?_eq_getElem hiy]
        rfl
      · intro q hq
        rcases List.mem_append.mp hq with hq | hq
        · exact h8 q hq
        · rw [List.mem_singleton.mp hq]
          show 1 ≤ 1 + r ∧ 1 + r ≤ 1000
          omega
    · rintro σ H' ⟨l', ps, v5, rfl, h1, h2, h3, h4, h6, h7, h8⟩
      have plen : ps.length = (2 + r4).toNat := by
        have := congrArg List.length h7
        rw [List.length_map, List.length_take] at this
        omega
      have hin : ∀ q ∈ ps, q.1 ∈ stdNames := fun q hq => by
        have : q.1 ∈ ps.map (·.1) := List.mem_map_of_mem hq
        rw [h7] at this
        exact hp.mem_iff.mp (List.mem_of_mem_take this)
      refine ⟨_, rfl, ?_⟩
      refine k H' fl l' ps ⟨by omega, by omega, ?_, fun q hq => std_name _ (hin q hq), h8⟩ (by omega) hin h2 h6 h1 hf0 h4
      rw [h7]
      exact (List.take_sublist _ _).nodup (hp.nodup_iff.mpr std_nd)
end
end Bk
namespace Bk
open PySem PySem.Spec PyProof.Rows L2
/-- Line(*e) -/
def MkL (P : Program) (w : World) (K : PySem.W.Frag) (mg : Str → Option Value) (base : Heap) (C : Addr) : Prop := ∃ fL, Mk K C fL ∧ FnR P w K mg base CX0 2 fL (spLineR K C) ∧ mg "Line" = some (.ref C)
theorem pe_line {X : Cx} {C : Addr} {j : Nat} {e : Expr} {te : TE} {p sp_ pos : Pos} (m : MkL X.prog X.w X.K X.mg X.base C) (hr : Room j X.A) (hk : 3 ≤ j) (hg : Gl X "Line") (he : PE X e te)
    (hst : starEach [.Starred e sp_] X.env = [(true, eval e X.env)] := by rfl) : PE X (.Call (.Name "Line" p) [.Starred e sp_] [] pos) (tMakeS X.K C (spLineR X.K C) E0 te) := by
  obtain ⟨fL, M, F, gm⟩ := m
  exact pe_makeS M F (hr.mono hk) hg gm pass0 he (by decide) hst
def pyRow (p : Person) : PyData := .list [.str p.1, .str (numS p.2)]
def spParse (K : PySem.W.Frag) (C : Addr) : Sp := fun vs H Q _ => ∃ ps, vs = [.str (wordsOf ps)] ∧ Valid ps ∧ ∀ H' v, Same H H' → IsLine K C H' v ps → Q v H'
def spWords (K : PySem.W.Frag) : Sp := fun vs H Q _ => ∃ v ps, vs = [v] ∧ Dp K H v (.list (pyPs ps)) ∧ Valid ps ∧ ∀ H', Same H H' → Q (.str (wordsOf ps)) H'
def spLawLine (K : PySem.W.Frag) (C : Addr) : Sp := fun vs H Q _ => ∃ v ps, vs = [v] ∧ Dp K H v (.list (pyPs ps)) ∧ Valid ps ∧ ∀ H' v, Same H H' → IsLine K C H' v ps → Q v H'
theorem iteOr {c : Prop} [Decidable c] {A B : Prop} (h : B) (hc : ¬ c) : if decide c = true then A else B := by
  rw [decide_eq_false hc]; exact iteF h
section
variable {P : Program} {w : World} {K : PySem.W.Frag} {mg : Str → Option Value} {base : Heap} {C : Addr}
abbrev s_is_number : Stmt := top 32
theorem sc_is_number : FnScope ["word", "longest", "digit"] ["word", "longest"] (defScope s_is_number) := ⟨rfl, rfl, rfl, by decide +kernel, rfl, by decide +kernel, by decide +kernel⟩

theorem ok_is_number {f : Addr} {fd : FuncData} (F : FnP K "is_number" "is_number" s_is_number f fd) (T : Tx mg) : FnOk P w K mg base CX0 1 f fd ["word", "longest"] spIsNum := by
  refine F.ok sc_is_number (fun vs H Q E h => ?_) (fun cdv A outer s H vs Q E hr h => ?_)
  · obtain ⟨d, n, rfl, _⟩ := h
    rfl
  · obtain ⟨z, n, rfl, hz, k⟩ := h
    refine ⟨_, PSs.nox 
      (pss_cons (ps_if (PW.pt (pw_or (pt_not (pt_chain op_le op_le pe_int (pe_callB call_len_str (by rfl) T.f_len PySem.boot_len (pa_cons (pv 0) pa_nil)) (pv 1))) (pw_or1 (pt_val (pe_callB (c_any K rfl) (by rfl) T.f_any (by decide +kernel) (pa_cons (pe_lc (own := [("digit", 2)]) rfl sc_is_number.nd (pi_str (pv 0)) (blkOk_by (own := [("digit", 2)]) (N := ["word", "longest", "digit"]) (sc := defScope s_is_number) (by decide +kernel)) (fun _ _ _ _ _ => (pg_name (i := 2) sc_is_number.nd rfl (Or.inl rfl))) (fun _ _ _ _ _ => pts_nil) (fun _ _ _ _ _ => (pe_cmpR op_notIn_sign (pv 2) (C8.pe_gc rfl T.g_DIGITS) rfl))) pa_nil)))))) 
        (pss_one (ps_ret pe_bl)) pss_nil)
      (pss_one (ps_ret (pe_or (pe_cmpR op_eq (pe_callB call_len_str (by rfl) T.f_len PySem.boot_len (pa_cons (pv 0) pa_nil)) pe_int (nomark _)) (pe_one (pe_cmpR op_ne (pe_ix ix_str (pv 0) pe_int (fun _ _ => rfl)) pe_str (nomark _))))))), ?_⟩
    refine ⟨_, rfl, z, rfl, sz hz, _, _, rfl, rfl, _, rfl, ?_⟩
    refine iteD (fun h0 => ?_) (fun h0 => ?_)
    · refine ⟨_, rfl, _, _, rfl, rfl, _, rfl, ?_⟩
      show if (!decide ((z.length : Int) ≤ n)) = true then _ else _
      refine iteN (fun h1 => ?_) (fun h1 => ?_)
      · exact iteT (k _ _ (by unfold isNum; rw [decide_eq_false h1]; simp) (Same.refl _))
      · refine ⟨_, rfl, z, rfl, fun D hD => ?_⟩
        refine lc_it (walk_str (z := z)) (fun i G => G = upd H D (.lst ((z.cps.toList.take i).map fun c => V.bl (!decide (c ∈ digits))))) rfl (fun _ _ _ _ => trivial) ?_ ?_
        · rintro i x G G' hi rfl ⟨rfl, c, hc, rfl⟩
          refine ⟨rfl, _, rfl, c, _, rfl, rfl, _, upd_same, ?_, ?_⟩
          · rw [List.length_map]
            refine szl (Nat.lt_of_le_of_lt (List.length_take_le _ _) ?_)
            have : z.length = z.cps.size := rfl
            omega
          · rw [upd_upd]
            have hc' : z.cps.toList[i]? = some c := by simpa using hc
            rw [List.take_add_one, hc']
            simp [digits]
        · rintro G rfl
          refine ⟨D, (z.cps.toList.map fun c => !decide (c ∈ digits)), rfl, SqL.of (by rw [upd_same, List.map_map, show z.cps.size = z.cps.toList.length by simp, List.take_length]; rfl), _, rfl, ?_⟩
          have s1 : Same H (upd H D (.lst ((z.cps.toList.take z.cps.size).map fun c => V.bl (!decide (c ∈ digits))))) := same_new hD
          have eall : (z.cps.toList.map fun c => !decide (c ∈ digits)).any id = !(z.cps.toList.all fun c => decide (c ∈ digits)) := by
            rw [List.any_map]
            simp [List.all_eq_not_any_not, Function.comp_def]
          refine iteB (fun h2 => ?_) (fun h2 => ?_)
          · rw [eall] at h2
            refine k _ _ ?_ s1
            unfold isNum
            have h3 : (z.cps.toList.all fun c => decide (c ∈ digits)) = false := by simpa using h2
            rw [h3]
            simp
          · rw [eall] at h2
            have h3 : (z.cps.toList.all fun c => decide (c ∈ digits)) = true := by simpa using h2
            refine ⟨_, rfl, z, rfl, sz hz, rfl, _, rfl, ?_⟩
            refine iteD (fun h4 => ?_) (fun h4 => ?_)
            · refine k _ _ ?_ s1
              unfold isNum
              rw [h3, decide_eq_true h0, decide_eq_true h1, decide_eq_true h4]
              rfl
            · have hl : ∃ c, z.cps.toList[0]? = some c ∧ z.cps.toList.headD 0 = c := by
                cases q : z.cps.toList with
                | nil =>
                  have : z.cps.toList.length = z.length := by simp [Str.length]
                  rw [q] at this
                  simp at this
                  omega
                | cons c r => exact ⟨c, rfl, rfl⟩
              obtain ⟨c, hc, hc2⟩ := hl
              refine ⟨_, rfl, z, 0, c, rfl, rfl, sz hz, atI_nat (j := 0) hc, rfl, ?_⟩
              refine k _ _ ?_ s1
              unfold isNum
              rw [h3, decide_eq_true h0, decide_eq_true h1, decide_eq_false h4, hc2]
              rfl
    · exact ⟨_, rfl, iteT (iteT (k _ _ (by unfold isNum; rw [decide_eq_false h0]; simp) (Same.refl _)))⟩
abbrev s__law_words : Stmt := top 41
theorem sc__law_words : FnScope ["_law_people_here", "_law_name", "_law_pace"] ["_law_people_here"] (defScope s__law_words) := ⟨rfl, rfl, rfl, by decide +kernel, rfl, by decide +kernel, by decide +kernel⟩

theorem log_small {i : Int} (h : i.natAbs ≤ 1900) : i.natAbs.log2 < 1920 := Nat.lt_of_le_of_lt (Nat.le_trans (Nat.log2_le_self _) h) (by decide)
theorem rows_size {ps : List Person} (hV : Valid ps) : ((ps.map rowOf).map (·.length)).sum ≤ 13 * ps.length := by
  have gen : ∀ ls : List Nat, (∀ l ∈ ls, l ≤ 13) → ls.sum ≤ 13 * ls.length := by
    intro ls
    induction ls with
    | nil => intro _; simp
    | cons l ls ih =>
      intro h
      have h1 := h l (by simp)
      have h2 := ih fun x hx => h x (by simp [hx])
      rw [List.sum_cons, List.length_cons]
      omega
  have h := gen ((ps.map rowOf).map (·.length)) (by
    intro l hl
    obtain ⟨r, hr, rfl⟩ := List.mem_map.mp hl
    obtain ⟨p, hp, rfl⟩ := List.mem_map.mp hr
    exact row_len (hV.nm p hp) (hV.pc p hp))
  rw [List.length_map, List.length_map] at h
  exact h
theorem ok_words {f : Addr} {fd : FuncData} (F : FnP K "_law_words" "_law_words" s__law_words f fd) (T : Tx mg) : FnOk P w K mg base CX0 1 f fd ["_law_people_here"] (spWords K) := by
  refine F.ok sc__law_words (fun vs H Q E h => ?_) (fun cdv A outer s H vs Q E hr h => ?_)
  · obtain ⟨d, n, rfl, _⟩ := h
    rfl
  · obtain ⟨v, ps, rfl, hv, hV, k⟩ := h
    obtain ⟨a, xs, rfl, hS, hd⟩ := dp_lst hv
    have hlen : xs.length = ps.length := by rw [hd.len]; unfold pyPs; simp
    refine ⟨_, PSs.nox 
      (pss_one (ps_ret (e_join K pe_str (pe_lc (own := [("_law_name", 1), ("_law_pace", 2)]) rfl sc__law_words.nd (iL K (pv 0)) (blkOk_by (own := [("_law_name", 1), ("_law_pace", 2)]) (N := ["_law_people_here", "_law_name", "_law_pace"]) (sc := defScope s__law_words) (by decide +kernel)) (fun _ _ _ _ _ => (g_tup K 2 rfl (pgs_cons (pg_name (i := 1) sc__law_words.nd rfl (Or.inl rfl)) (pgs_cons (pg_name (i := 2) sc__law_words.nd rfl (Or.inl rfl)) pgs_nil)))) (fun _ _ _ _ _ => pts_nil) (fun _ _ _ _ _ => (pe_op op_add_str (pe_op op_add_str (pv 1) pe_str) (pe_callTy call_str_int (by rfl) T.f_str (by decide +kernel) (pa_cons (pv 2) pa_nil)))))))), ?_⟩
    refine ⟨⟨_, rfl⟩, _, rfl, a, rfl, ⟨_, hS⟩, fun D hD => ?_⟩
    refine lc_it (walk_list (K := K) (a := a) (xs := xs)) (fun i G => G = upd H D (.lst (((ps.map rowOf).take i).map V.str))) rfl ?_ ?_ ?_
    · rintro i G _ rfl
      exact (same_new hD).seq hS
    · rintro i x G G' hi rfl ⟨rfl, hx⟩
      obtain ⟨d, hd1, hd2⟩ := hd.get hx
      obtain ⟨q, hq, rfl⟩ := pyPs_get hd1
      obtain ⟨b, rfl, hb⟩ := dp_person hd2
      have hqm : q ∈ ps := List.mem_of_getElem? hq
      have nl := isName_len (hV.nm q hqm)
      have pp := hV.pc q hqm
      have nL := numS_len pp
      have hm : ∀ n, n ≤ 100000 → n ≤ sizeLine := fun n h => sz h
      refine ⟨b, _, rfl, (same_new hD).seqT hb, rfl, _, _, rfl, _, _, rfl, rfl, rfl, ?_⟩
      refine ⟨_, rfl, _, _, rfl, rfl, hm _ ?_, _, rfl, _, rfl, log_small (by omega), _, _, rfl, rfl, hm _ ?_, _, upd_same, ?_, ?_⟩
      · show q.1.length + 1 ≤ 100000
        omega
      · show (q.1 ++ (" " : Str)).length + (numS q.2).length ≤ 100000
        have : (q.1 ++ (" " : Str)).length = q.1.length + 1 := by
          rw [TL.len_tl, TL.tl_append, List.length_append, tl_sp, ← TL.len_tl]
          rfl
        omega
      · rw [List.length_map]
        refine szl (Nat.lt_of_le_of_lt (List.length_take_le _ _) ?_)
        have := hV.hi
        omega
      · rw [upd_upd, List.take_add_one, List.getElem?_map, hq]
        simp [rowOf, numS]
    · rintro G rfl
      have e : (ps.map rowOf).take xs.length = ps.map rowOf := by
        rw [hlen, ← List.length_map (f := rowOf), List.take_length]
      refine ⟨_, D, ps.map rowOf, rfl, rfl, .inl (SqL.of (by rw [upd_same, e])), ?_, ?_⟩
      · have h1 := rows_size hV
        have h2 := hV.hi
        rw [List.length_map]
        have h3 : ("\n" : Str).length = 1 := by decide +kernel
        rw [h3]
        omega
      · exact k _ (same_new hD)
abbrev s_parse_line : Stmt := top 33
theorem sc_parse_line : FnScope ["text", "people", "row", "words", "line"] ["text"] (defScope s_parse_line) := ⟨rfl, rfl, rfl, by decide +kernel, rfl, by decide +kernel, by decide +kernel⟩

theorem ok_parse {f : Addr} {fd : FuncData} (F : FnP K "parse_line" "parse_line" s_parse_line f fd) (T : Tx mg) (cName : C8.Cal P w K mg base 1 "is_name" spIsName []) (cNum : C8.Cal P w K mg base 1 "is_number" spIsNum []) (mkL : MkL P w K mg base C) :
    FnOk P w K mg base CX0 4 f fd ["text"] (spParse K C) := by
  refine F.ok sc_parse_line (fun vs H Q E h => ?_) (fun cdv A outer s H vs Q E hr h => ?_)
  · obtain ⟨d, rfl, _⟩ := h
    rfl
  · obtain ⟨ps, rfl, hV, k⟩ := h
    refine ⟨_, PSs.nox 
      (pss_cons (ps_set (i := 1) sc_parse_line.nd rfl (.inl rfl) (pe_lst pa_nil))
      (pss_cons (ps_for PassesOwn.never rfl (pi_enum (by rfl) T.f_enumerate (pa_cons (pe_lc (own := [("line", 4)]) rfl sc_parse_line.nd (iL K (pe_split (pv 0) pe_str)) (blkOk_by (own := [("line", 4)]) (N := ["text", "people", "row", "words", "line"]) (sc := defScope s_parse_line) (by decide +kernel)) (fun _ _ _ _ _ => (pg_name (i := 4) sc_parse_line.nd rfl (Or.inl rfl))) (fun _ _ _ _ _ => pts_nil) (fun _ _ _ _ _ => (pe_split (pv 4) pe_str))) pa_nil)) (g_tup K 2 rfl (pgs_cons (pg_name (i := 2) sc_parse_line.nd rfl (Or.inl rfl)) (pgs_cons (pg_name (i := 3) sc_parse_line.nd rfl (Or.inl rfl)) pgs_nil))) 
        (pss_cons (ps_if (pt_not (pt_val (C8.pe_c cName hr (by decide) rfl (pa_cons (pe_ix (ixL K) (pv 3) pe_int (fun _ _ => rfl)) pa_nil)))) 
          (pss_one ps_never) pss_nil)
        (pss_cons (ps_if (PW.pt (pw_or (pt_cmpR op_eq (pe_callB (c_len K) (by rfl) T.f_len PySem.boot_len (pa_cons (pv 3) pa_nil)) pe_int (nomark _)) (pw_or1 (pt_not (pt_val (C8.pe_c cNum hr (by decide) rfl (pa_cons (pe_ix (ixL K) (pv 3) pe_int (fun _ _ => rfl)) (pa_cons (C8.pe_gc rfl T.g_MAX_DIGITS) pa_nil)))))))) 
          (pss_one ps_never) pss_nil)
        (pss_cons (ps_if (pt_cmpR op_gt (pe_callB (c_len K) (by rfl) T.f_len PySem.boot_len (pa_cons (pv 3) pa_nil)) pe_int (nomark _)) 
          (pss_one ps_never) pss_nil)
        (pss_one (ps_expr (e_bm K PySem.F.plainAttrs_list PySem.F.slot_list_append PySem.F.type_list_append mt_append (pv 1) (pa_cons (pe_tup (pa_cons (pe_ix (ixL K) (pv 3) pe_int (fun _ _ => rfl)) (pa_cons (pe_callTy call_int_str (by rfl) T.f_int (by decide +kernel) (pa_cons (pe_ix (ixL K) (pv 3) pe_int (fun _ _ => rfl)) pa_nil)) pa_nil))) pa_nil))))))))
      (pss_one (ps_ret (pe_line mkL hr (by decide) (by rfl) (pv 1)))))), ?_⟩
    have wl := words_len hV
    have hm : ∀ n, n ≤ 100000 → n ≤ sizeLine := fun n h => sz h
    refine ⟨Nat.zero_le _, fun pl hpl => ?_⟩
    -- the rows, split
    have b10 : ((("\n" : Str)).length == 0) = false := by decide +kernel
    have b32 : (((" " : Str)).length == 0) = false := by decide +kernel
    refine ⟨_, rfl, ⟨_, rfl⟩, wordsOf ps, "\n", rfl, rfl, b10, hm _ (by omega), fun q hq => ?_⟩
    rw [split_rows hV] at *
    have hqpl : q ≠ pl := fun e => by rw [e, upd_same] at hq; cases hq
    have hH2pl : upd (upd H pl (.lst [])) q (.lst ((ps.map rowOf).map V.str)) pl = some (.lst []) := by rw [upd_ne (Ne.symm hqpl)]; exact upd_same
    have s02 : Same H (upd (upd H pl (.lst [])) q (.lst ((ps.map rowOf).map V.str))) := (same_new hpl).trans (same_new hq)
    generalize eH2 : upd (upd H pl (.lst [])) q (.lst ((ps.map rowOf).map V.str)) = H2 at *
    have hq2 : H2 q = some (.lst ((ps.map rowOf).map V.str)) := by rw [← eH2]; exact upd_same
    refine ⟨q, rfl, ⟨_, SqL.of hq2⟩, fun D hD => ?_⟩
    have hDq : D ≠ q := fun e => by rw [e, hq2] at hD; cases hD
    have hDpl : D ≠ pl := fun e => by rw [e, hH2pl] at hD; cases hD
    have hrl : ((ps.map rowOf).map V.str).length = ps.length := by simp
    refine lc_it (walk_list (K := K) (a := q) (xs := (ps.map rowOf).map V.str)) (fun i G => ∃ G0 vs, G = upd G0 D (.lst vs) ∧ G0 D = none ∧ Same H2 G0 ∧ DpAll K (delH G0 pl) vs ((ps.take i).map pyRow)) ⟨H2, [], rfl, hD, Same.refl _, .nil⟩ ?_ ?_ ?_
    · rintro i G _ ⟨G0, vs, rfl, h0, s1, _⟩
      exact SqL.of (by rw [upd_ne (Ne.symm hDq)]; exact s1 _ _ hq2)
    · rintro i x G G' hi ⟨G0, vs, rfl, h0, s1, hvs⟩ ⟨rfl, hx⟩
      rw [hrl] at hi
      obtain ⟨p, hp⟩ : ∃ p, ps[i]? = some p := ⟨ps[i], by simp [hi]⟩
      have hpm : p ∈ ps := List.mem_of_getElem? hp
      have ex : x = .str (rowOf p) := by
        rw [List.getElem?_map, List.getElem?_map, hp] at hx
        exact (Option.some.inj hx).symm
      subst ex
      have rl := row_len (hV.nm p hpm) (hV.pc p hpm)
      have vl : vs.length = i := by rw [hvs.len]; simp; omega
      refine ⟨rfl, _, rfl, ⟨_, rfl⟩, rowOf p, " ", rfl, rfl, b32, hm _ (by omega), fun z hz => ?_⟩
      rw [split_row (hV.nm p hpm) (hV.pc p hpm)] at *
      have hzD : z ≠ D := fun e => by rw [e, upd_same] at hz; cases hz
      have hz0 : G0 z = none := by rw [upd_ne hzD] at hz; exact hz
      have hzpl : z ≠ pl := fun e => by rw [e, s1 _ _ hH2pl] at hz0; cases hz0
      refine ⟨vs, by rw [upd_ne (Ne.symm hzD)]; exact upd_same, szl (by have := hV.hi; omega), upd G0 z (.lst [.str p.1, .str (numS p.2)]), vs ++ [.ref z], ?_, by rw [upd_ne (Ne.symm hzD)]; exact h0, s1.trans (same_new hz0), ?_⟩
      · exact upd_swap hzD
      · rw [List.take_add_one, hp, List.map_append]
        refine (hvs.same (del_new hzpl hz0)).app (.cons ?_ .nil)
        exact dp_mk_lst (by rw [delH_ne hzpl]; exact upd_same) (.cons (.str _) (.cons (.str _) .nil))
    · rintro G ⟨G0, vs, rfl, h0, s1, hvs⟩
      rw [hrl, List.take_length] at hvs
      have vl : vs.length = ps.length := by rw [hvs.len]; simp
      have sG : Same G0 (upd G0 D (.lst vs)) := same_new h0
      have hvs' : DpAll K (delH (upd G0 D (.lst vs)) pl) vs (ps.map pyRow) := hvs.same (del_new hDpl h0)
      have hG1D : delH (upd G0 D (.lst vs)) pl D = some (.lst vs) := by rw [delH_ne hDpl]; exact upd_same
      have hG1pl : upd G0 D (.lst vs) pl = some (.lst []) := by rw [upd_ne (Ne.symm hDpl)]; exact s1 _ _ hH2pl
      have s0G : Same H (delH (upd G0 D (.lst vs)) pl) := fun b o e => by
        rw [delH_ne (ne_of_none e hpl)]
        exact sG _ _ (s1 _ _ (s02 _ _ e))
      generalize upd G0 D (.lst vs) = G1 at *
      refine ⟨D, vs, rfl, SqL.of (same_del _ _ hG1D), for_it (walk_enum (K := K) (a := D) (xs := vs)) (fun i σ H' => ∃ v2 v3 : Option V, σ = [some (.str (wordsOf ps)), some (.ref pl), v2, v3, none] ∧ Same (delH G1 pl) H' ∧ Own K H' pl (pyPs (ps.take i)))
        ⟨none, none, rfl, same_del, Own.nil hG1pl⟩ ?_ ?_ ?_⟩
      · rintro i σ H' _ ⟨_, _, _, s2, _⟩
        exact SqL.of (s2 _ _ hG1D)
      · rintro i x σ H' H2' hi ⟨v2, v3, rfl, s2, ow⟩ ⟨t, _, y, rfl, ht, rfl, ei, hy⟩
        cases ei
        obtain ⟨d, hd1, hd2⟩ := hvs'.get hy
        rw [List.getElem?_map] at hd1
        obtain ⟨p, hp⟩ : ∃ p, ps[i]? = some p := ⟨ps[i]'(by omega), by simp [show i < ps.length by omega]⟩
        rw [hp] at hd1
        obtain rfl : pyRow p = d := Option.some.inj hd1
        have hpm : p ∈ ps := List.mem_of_getElem? hp
        have nn := hV.nm p hpm
        have pp := hV.pc p hpm
        obtain ⟨wa, ws, rfl, hw, hws⟩ := dp_lst hd2
        obtain rfl : ws = [.str p.1, .str (numS p.2)] := by
          cases hws with
          | cons h1 h2 =>
            cases h2 with
            | cons h3 h4 =>
              cases h4
              cases h1
              cases h3
              rfl
        have sT : Same H' (upd H' t (.tup [.int (i : Nat), .ref wa])) := same_new ht
        have hT3 : upd H' t (.tup [.int (i : Nat), .ref wa]) t = some (.tup [.int (i : Nat), .ref wa]) := upd_same
        generalize upd H' t (.tup [.int (i : Nat), .ref wa]) = H3 at *
        have hw3 : SqL K H3 wa [.str p.1, .str (numS p.2)] := (s2.trans sT).seq hw
        refine ⟨t, _, rfl, SqT.of' hT3, rfl, _, _, rfl, _, _, rfl, rfl, ?_⟩
        refine ⟨_, rfl, wa, _, 0, _, rfl, rfl, hw3, at_0, p.1, rfl, by have := isName_len nn; omega, fun b4 H4 eb s4 => ?_⟩
        rw [nn] at eb
        subst eb
        refine ⟨_, rfl, iteF ?_⟩
        refine ⟨_, rfl, wa, _, rfl, .inl (s4.seq hw3), rfl, _, rfl, ?_⟩
        refine iteF ?_
        refine ⟨_, rfl, wa, _, 1, _, rfl, rfl, s4.seq hw3, at_1, numS p.2, 4, rfl, by have := numS_len pp; omega, fun b5 H5 eb s5 => ?_⟩
        rw [isNum_pace pp] at eb
        subst eb
        refine ⟨_, rfl, iteF ?_⟩
        have s35 : Same H3 H5 := s4.trans s5
        refine ⟨_, rfl, wa, _, rfl, .inl (s35.seq hw3), _, _, rfl, rfl, _, rfl, ?_⟩
        refine iteF ?_
        obtain ⟨us, hpl5, hus⟩ := ow.same (sT.trans s35)
        have ul : us.length = i := by rw [hus.len]; unfold pyPs; simp; omega
        refine ⟨_, rfl, .inl ⟨rfl, _, SqL.of hpl5⟩, ?_⟩
        refine ⟨_, rfl, wa, _, 0, _, rfl, rfl, s35.seq hw3, at_0, _, rfl, wa, _, 1, _, rfl, rfl, s35.seq hw3, at_1, numS p.2, p.2, rfl, int_numS pp, by have := numS_len pp; omega, (by show 2 ≤ sizeLine; decide), fun t2 ht2 => ?_⟩
        have h2pl : t2 ≠ pl := fun e => by rw [e, hpl5] at ht2; cases ht2
        refine ⟨pl, us, _, rfl, rfl, by rw [upd_ne (Ne.symm h2pl)]; exact hpl5, szl (by have := hV.hi; omega), _, _, rfl, ?_, ?_⟩
        · exact del_upd_same ((s2.trans (sT.trans s35)).trans (same_new ht2))
        · rw [List.take_add_one, hp]
          unfold pyPs
          rw [List.map_append]
          refine Own.push (hus.same (del_new h2pl ht2)) ?_
          exact dp_mk_tup (by rw [delH_ne h2pl]; exact upd_same) (.cons (.str _) (.cons (.int _) .nil))
      · rintro σ H' ⟨v2, v3, rfl, s2, us, hpl5, hus⟩
        rw [vl, List.take_length] at hus
        refine ⟨_, rfl, pl, us, rfl, .inr (SqL.of hpl5), mk_line (hus.same same_del) hV fun H6 v s6 hl => k H6 v ((s0G.trans s2).trans s6) hl⟩
abbrev s__law_line : Stmt := top 42
theorem sc__law_line : FnScope ["_law_people_here"] ["_law_people_here"] (defScope s__law_line) := ⟨rfl, rfl, rfl, by decide +kernel, rfl, by decide +kernel, by decide +kernel⟩

theorem ok_law_line {f : Addr} {fd : FuncData} (F : FnP K "_law_line" "_law_line" s__law_line f fd) (cWords : C8.Cal P w K mg base 1 "_law_words" (spWords K) []) (cParse : C8.Cal P w K mg base 4 "parse_line" (spParse K C) []) :
    FnOk P w K mg base CX0 5 f fd ["_law_people_here"] (spLawLine K C) := by
  refine F.ok sc__law_line (fun vs H Q E h => ?_) (fun cdv A outer s H vs Q E hr h => ?_)
  · obtain ⟨d, n, rfl, _⟩ := h
    rfl
  · obtain ⟨v, ps, rfl, hv, hV, k⟩ := h
    refine ⟨_, PSs.nox 
      (pss_one (ps_ret (C8.pe_c cParse hr (by decide) rfl (pa_cons (C8.pe_c cWords hr (by decide) rfl (pa_cons (pv 0) pa_nil)) pa_nil)))), ?_⟩
    exact ⟨_, rfl, v, ps, rfl, hv, hV, fun H1 s1 => ⟨ps, rfl, hV, fun H2 v2 s2 hl => k H2 v2 (s1.trans s2) hl⟩⟩
end
end Bk
/-! ### bytes -/
namespace Bk
open PySem PySem.Spec PyProof.Rows L2
def ixs (s : Str) : List Int := (TL.tl s).map fun c : Nat => (c : Int) - 97
def persB (p : Person) : List Int := (p.1.length : Int) :: (ixs p.1 ++ [p.2 / 256, p.2 % 256])
def bytesOf (ps : List Person) : List Int := 66 :: (ps.length : Int) :: ps.flatMap persB
def sumStep (f v : Int) : Int := (f * 5 + v) % 241
def sumOf (l : List Int) : Int := l.foldl sumStep 7
def codeOf (ps : List Person) : List Int := bytesOf ps ++ [sumOf (bytesOf ps)]
theorem sum_more {l : List Int} {i : Nat} {u : Int} (h : l[i]? = some u) : sumOf (l.take (i + 1)) = sumStep (sumOf (l.take i)) u := by
  rw [List.take_add_one, h]
  unfold sumOf
  rw [List.foldl_append]
  rfl
theorem idx_letter : ∀ c : Nat, c < 123 → 97 ≤ c → ∃ rest, Builtin.Str.occurrences ("abcdefghijklmnopqrstuvwxyz" : Str) ⟨#[c]⟩ 0 ("abcdefghijklmnopqrstuvwxyz" : Str).length 1 = (c - 97) :: rest := by
  have h : ∀ c : Nat, c < 123 → 97 ≤ c → (Builtin.Str.occurrences ("abcdefghijklmnopqrstuvwxyz" : Str) ⟨#[c]⟩ 0 ("abcdefghijklmnopqrstuvwxyz" : Str).length 1).head? = some (c - 97) := by decide +kernel
  intro c h1 h2
  have h3 := h c h1 h2
  cases e : Builtin.Str.occurrences ("abcdefghijklmnopqrstuvwxyz" : Str) ⟨#[c]⟩ 0 ("abcdefghijklmnopqrstuvwxyz" : Str).length 1 with
  | nil => rw [e] at h3; cases h3
  | cons i r =>
    rw [e] at h3
    have h4 : i = c - 97 := Option.some.inj h3
    exact ⟨r, by rw [h4]⟩
theorem at_letter : ∀ c : Nat, c < 123 → 97 ≤ c → atI ("abcdefghijklmnopqrstuvwxyz" : Str).cps.toList ((c : Int) - 97) = some c := by
  have h : ∀ c : Nat, c < 123 → 97 ≤ c → ("abcdefghijklmnopqrstuvwxyz" : Str).cps.toList[c - 97]? = some c := by decide +kernel
  intro c h1 h2
  have e : (c : Int) - 97 = ((c - 97 : Nat) : Int) := by omega
  rw [e]
  exact atI_nat (h c h1 h2)
def spCrew (C : Addr) : Sp := fun vs H Q _ => ∃ a dx p, vs = [.ref a] ∧ H a = some (.ins C dx [("crew", .ref p)]) ∧ Q (.ref p) H
def spLineLen (K : PySem.W.Frag) (C : Addr) : Sp := fun vs H Q _ => ∃ a ps, vs = [.ref a] ∧ IsLine K C H (.ref a) ps ∧ Q (.int ps.length) H
def spSum (K : PySem.W.Frag) : Sp := fun vs H Q _ => ∃ a l, vs = [.ref a] ∧ SqL K H a (ivs l) ∧ Q (.int (sumOf l)) H
def spBytes (K : PySem.W.Frag) : Sp := fun vs H Q _ => ∃ v ps, vs = [v] ∧ Dp K H v (.list (pyPs ps)) ∧ Valid ps ∧ ∀ H' p, Same H H' → H p = none → H' p = some (.lst (ivs (bytesOf ps))) → Q (.ref p) H'
def spEncode (K : PySem.W.Frag) (C : Addr) : Sp := fun vs H Q _ => ∃ v ps, vs = [v] ∧ IsLine K C H v ps ∧ Valid ps ∧ ∀ H' p, Same H H' → H p = none → H' p = some (.lst (ivs (codeOf ps))) → Q (.ref p) H'
theorem crew_lookup {p : Addr} : List.lookup ("crew" : Str) [(("crew" : Str), V.ref p)] = some (.ref p) := by simp [List.lookup]
theorem persB_len {p : Person} (h : isName p.1 = true) : (persB p).length ≤ 11 := by
  unfold persB ixs
  have := isName_len h
  have := TL.len_tl p.1
  rw [List.length_cons, List.length_append, List.length_map]
  show _ + 2 + 1 ≤ 11
  omega
theorem flat_len {ps : List Person} (h : ∀ p ∈ ps, isName p.1 = true) : (ps.flatMap persB).length ≤ 11 * ps.length := by
  induction ps with
  | nil => simp
  | cons p ps ih =>
    rw [List.flatMap_cons, List.length_append, List.length_cons]
    have h1 := persB_len (h p (by simp))
    have h2 := ih fun q hq => h q (by simp [hq])
    omega
theorem bytes_len {ps : List Person} (hV : Valid ps) : (bytesOf ps).length ≤ 200 := by
  unfold bytesOf
  have h1 := flat_len hV.nm
  have h2 := hV.hi
  rw [List.length_cons, List.length_cons]
  omega
section
variable {P : Program} {w : World} {K : PySem.W.Frag} {mg : Str → Option Value} {base : Heap} {C : Addr}
abbrev s_Line_people : Stmt := inClass (top 14) 4
theorem sc_Line_people : FnScope ["self"] ["self"] (defScope s_Line_people) := ⟨rfl, rfl, rfl, by decide +kernel, rfl, by decide +kernel, by decide +kernel⟩

theorem ok_crew {f : Addr} {fd : FuncData} (F : FnP K "people" "Line.people" s_Line_people f fd) (L : LineT K mg C) : FnOk P w K mg base CX0 1 f fd ["self"] (spCrew C) := by
  refine F.ok sc_Line_people (fun vs H Q E h => ?_) (fun cdv A outer s H vs Q E hr h => ?_)
  · obtain ⟨_, _, _, rfl, _⟩ := h
    rfl
  · obtain ⟨a, dx, p, rfl, ha, k⟩ := h
    refine ⟨_, PSs.nox 
      (pss_one (ps_ret (e_fld K (pv 0)))), ?_⟩
    exact ⟨_, rfl, a, C, dx, _, _, rfl, ha, L.cl, L.nC, crew_lookup, k⟩
abbrev s_Line___len__ : Stmt := inClass (top 14) 8
theorem sc_Line___len__ : FnScope ["self"] ["self"] (defScope s_Line___len__) := ⟨rfl, rfl, rfl, by decide +kernel, rfl, by decide +kernel, by decide +kernel⟩

theorem ok_lineLen {f : Addr} {fd : FuncData} (F : FnP K "__len__" "Line.__len__" s_Line___len__ f fd) (T : Tx mg) (L : LineT K mg C) : FnOk P w K mg base CX0 1 f fd ["self"] (spLineLen K C) := by
  refine F.ok sc_Line___len__ (fun vs H Q E h => ?_) (fun cdv A outer s H vs Q E hr h => ?_)
  · obtain ⟨_, _, rfl, _⟩ := h
    rfl
  · obtain ⟨a, ps, rfl, ⟨a', dx, p, xs, e, ha, hp, hd⟩, k⟩ := h
    cases e
    refine ⟨_, PSs.nox 
      (pss_one (ps_ret (pe_callB (c_len K) (by rfl) T.f_len PySem.boot_len (pa_cons (e_fld K (pv 0)) pa_nil)))), ?_⟩
    refine ⟨_, rfl, a, C, dx, _, _, rfl, ha, L.cl, L.nC, crew_lookup, p, xs, rfl, .inr (SqT.of' hp), ?_⟩
    have : xs.length = ps.length := by rw [hd.len]; unfold pyPs; simp
    rw [this]
    exact k
abbrev s_checksum : Stmt := top 25
theorem sc_checksum : FnScope ["values", "found", "value"] ["values"] (defScope s_checksum) := ⟨rfl, rfl, rfl, by decide +kernel, rfl, by decide +kernel, by decide +kernel⟩

theorem ok_sum {f : Addr} {fd : FuncData} (F : FnP K "checksum" "checksum" s_checksum f fd) (T : Tx mg) : FnOk P w K mg base CX0 1 f fd ["values"] (spSum K) := by
  refine F.ok sc_checksum (fun vs H Q E h => ?_) (fun cdv A outer s H vs Q E hr h => ?_)
  · obtain ⟨_, _, rfl, _⟩ := h
    rfl
  · obtain ⟨a, l, rfl, hS, k⟩ := h
    refine ⟨_, PSs.nox 
      (pss_cons (ps_set (i := 1) sc_checksum.nd rfl (.inl rfl) pe_int)
      (pss_cons (ps_for PassesOwn.never rfl (iL K (pv 0)) (pg_name (i := 2) sc_checksum.nd rfl (Or.inl rfl)) 
        (pss_one (ps_set (i := 1) sc_checksum.nd rfl (.inl rfl) (pe_op op_mod (pe_op op_add (pe_op op_mul (pv 1) pe_int) (pv 2)) (C8.pe_gc rfl T.g_MODULUS)))))
      (pss_one (ps_ret (pv 1))))), ?_⟩
    refine ⟨_, rfl, a, rfl, ⟨_, hS⟩, for_list (K := K) (a := a) (xs := ivs l) (fun i σ H' => ∃ c : Option V, σ = [some (.ref a), some (.int (sumOf (l.take i))), c] ∧ H' = H) ⟨none, rfl, rfl⟩ ?_ ?_ ?_⟩
    · rintro i σ H' _ ⟨c, _, rfl⟩
      exact hS
    · rintro i x σ H' hi ⟨c, rfl, rfl⟩
      obtain ⟨u, hu, rfl⟩ := ivs_get hi
      refine ⟨_, rfl, _, _, rfl, rfl, .inr ⟨by decide, by decide⟩, _, rfl, _, _, rfl, rfl, _, _, rfl, rfl, (by show (0 : Int) < 241; decide), ?_⟩
      exact ⟨some (.int u), by rw [sum_more hu]; rfl, rfl⟩
    · rintro σ H' ⟨c, rfl, rfl⟩
      rw [ivs_len, List.take_length]
      exact ⟨_, rfl, k⟩
abbrev s__law_sum : Stmt := top 40
theorem sc__law_sum : FnScope ["_law_code", "_law_found", "_law_value"] ["_law_code"] (defScope s__law_sum) := ⟨rfl, rfl, rfl, by decide +kernel, rfl, by decide +kernel, by decide +kernel⟩

theorem ok_lawsum {f : Addr} {fd : FuncData} (F : FnP K "_law_sum" "_law_sum" s__law_sum f fd) (T : Tx mg) : FnOk P w K mg base CX0 1 f fd ["_law_code"] (spSum K) := by
  refine F.ok sc__law_sum (fun vs H Q E h => ?_) (fun cdv A outer s H vs Q E hr h => ?_)
  · obtain ⟨_, _, rfl, _⟩ := h
    rfl
  · obtain ⟨a, l, rfl, hS, k⟩ := h
    refine ⟨_, PSs.nox 
      (pss_cons (ps_set (i := 1) sc__law_sum.nd rfl (.inl rfl) pe_int)
      (pss_cons (ps_for PassesOwn.never rfl (iL K (pv 0)) (pg_name (i := 2) sc__law_sum.nd rfl (Or.inl rfl)) 
        (pss_one (ps_set (i := 1) sc__law_sum.nd rfl (.inl rfl) (pe_op op_mod (pe_op op_add (pe_op op_mul pe_int (pv 1)) (pv 2)) pe_int))))
      (pss_one (ps_ret (pv 1))))), ?_⟩
    refine ⟨_, rfl, a, rfl, ⟨_, hS⟩, for_list (K := K) (a := a) (xs := ivs l) (fun i σ H' => ∃ c : Option V, σ = [some (.ref a), some (.int (sumOf (l.take i))), c] ∧ H' = H) ⟨none, rfl, rfl⟩ ?_ ?_ ?_⟩
    · rintro i σ H' _ ⟨c, _, rfl⟩
      exact hS
    · rintro i x σ H' hi ⟨c, rfl, rfl⟩
      obtain ⟨u, hu, rfl⟩ := ivs_get hi
      refine ⟨_, rfl, _, _, rfl, rfl, .inl ⟨by decide, by decide⟩, _, rfl, _, _, rfl, rfl, _, _, rfl, rfl, (by show (0 : Int) < 241; decide), ?_⟩
      exact ⟨some (.int u), by rw [sum_more hu]; unfold sumStep; rw [Int.mul_comm]; rfl, rfl⟩
    · rintro σ H' ⟨c, rfl, rfl⟩
      rw [ivs_len, List.take_length]
      exact ⟨_, rfl, k⟩
end
end Bk
namespace Bk
open PySem PySem.Spec PyProof.Rows L2
section
variable {P : Program} {w : World} {K : PySem.W.Frag} {mg : Str → Option Value} {base : Heap} {C : Addr}
theorem ixs_take {z : Str} {i : Nat} {c : Nat} (h : z.cps[i]? = some c) : (ixs z).take (i + 1) = (ixs z).take i ++ [(c : Int) - 97] := by
  have hc' : (TL.tl z)[i]? = some c := by simpa using h
  unfold ixs
  rw [List.take_add_one, List.getElem?_map, hc']
  rfl
theorem ixs_all (z : Str) : (ixs z).take z.cps.size = ixs z := by
  rw [List.take_of_length_le]
  unfold ixs
  rw [List.length_map]
  simp [TL.tl]
theorem flat_more {ps : List Person} {i : Nat} {p : Person} (h : ps[i]? = some p) : (ps.take (i + 1)).flatMap persB = (ps.take i).flatMap persB ++ persB p := by
  rw [List.take_add_one, h, List.flatMap_append]
  simp
theorem flat_take {ps : List Person} (hV : Valid ps) (i : Nat) : ((ps.take i).flatMap persB).length ≤ 132 := by
  have h1 := flat_len (ps := ps.take i) fun p hp => hV.nm p (List.mem_of_mem_take hp)
  have h2 := hV.hi
  have h3 := List.length_take_le i ps
  have h4 : (ps.take i).length ≤ ps.length := by rw [List.length_take]; omega
  omega
abbrev s__law_bytes : Stmt := top 39
theorem sc__law_bytes : FnScope ["_law_people_here", "_law_found", "_law_name", "_law_pace", "_law_letters", "_law_letter"] ["_law_people_here"] (defScope s__law_bytes) := ⟨rfl, rfl, rfl, by decide +kernel, rfl, by decide +kernel, by decide +kernel⟩

theorem ok_lawbytes {f : Addr} {fd : FuncData} (F : FnP K "_law_bytes" "_law_bytes" s__law_bytes f fd) (T : Tx mg) : FnOk P w K mg base CX0 1 f fd ["_law_people_here"] (spBytes K) := by
  refine F.ok sc__law_bytes (fun vs H Q E h => ?_) (fun cdv A outer s H vs Q E hr h => ?_)
  · obtain ⟨_, _, rfl, _⟩ := h
    rfl
  · obtain ⟨v, ps, rfl, hv, hV, k⟩ := h
    obtain ⟨a, xs, rfl, hS, hd⟩ := dp_lst hv
    have hlen : xs.length = ps.length := by rw [hd.len]; unfold pyPs; simp
    refine ⟨_, PSs.nox 
      (pss_cons (ps_set (i := 1) sc__law_bytes.nd rfl (.inl rfl) (pe_lst (pa_cons pe_int (pa_cons (pe_callB (c_len K) (by rfl) T.f_len PySem.boot_len (pa_cons (pv 0) pa_nil)) pa_nil))))
      (pss_cons (ps_for PassesOwn.never rfl (iL K (pv 0)) (g_tup K 2 rfl (pgs_cons (pg_name (i := 2) sc__law_bytes.nd rfl (Or.inl rfl)) (pgs_cons (pg_name (i := 3) sc__law_bytes.nd rfl (Or.inl rfl)) pgs_nil))) 
        (pss_cons (ps_setLc (i := 4) (own := [("_law_letter", 5)]) rfl sc__law_bytes.nd rfl rfl (sw_true rfl rfl rfl (by decide +kernel)) (pi_str (pv 2)) (blkOk_by (own := [("_law_letter", 5)]) (N := ["_law_people_here", "_law_found", "_law_name", "_law_pace", "_law_letters", "_law_letter"]) (sc := defScope s__law_bytes) (by decide +kernel)) (fun _ _ _ _ _ => (pg_name (i := 5) sc__law_bytes.nd rfl (Or.inl rfl))) (fun _ _ _ _ _ => pts_nil) (fun _ _ _ _ _ => (e_bm K PySem.F.plainAttrs_str PySem.F.slot_str_index PySem.F.type_str_index mt_sindex pe_str (pa_cons (pv 5) pa_nil))))
        (pss_one (ps_set (i := 1) sc__law_bytes.nd rfl (.inl rfl) (pe_op op_cat (pe_op op_cat (pe_op op_cat (pv 1) (pe_lst (pa_cons (pe_callB call_len_str (by rfl) T.f_len PySem.boot_len (pa_cons (pv 2) pa_nil)) pa_nil))) (pv 4)) (pe_lst (pa_cons (pe_op op_fdiv (pv 3) pe_int) (pa_cons (pe_op op_mod (pv 3) pe_int) pa_nil))))))))
      (pss_one (ps_ret (pv 1))))), ?_⟩
    refine ⟨_, rfl, a, _, rfl, .inl hS, (by show 2 ≤ sizeLine; decide), fun f0 hf0 => ?_⟩
    rw [hlen]
    have s0 : Same H (upd H f0 (.lst [.int 66, .int (ps.length : Nat)])) := same_new hf0
    refine ⟨_, rfl, a, rfl, ⟨_, s0.seq hS⟩, for_it (walk_list (K := K) (a := a) (xs := xs)) (fun i σ H' => ∃ (fl : Addr) (v2 v3 v4 : Option V), σ = [some (.ref a), some (.ref fl), v2, v3, v4, none] ∧ Same H H' ∧ H fl = none ∧
      H' fl = some (.lst (ivs (66 :: (ps.length : Int) :: (ps.take i).flatMap persB)))) ⟨f0, none, none, none, rfl, s0, hf0, upd_same⟩ ?_ ?_ ?_⟩
    · rintro i σ H' _ ⟨_, _, _, _, _, s1, _⟩
      exact s1.seq hS
    · rintro i x σ H' H2 hi ⟨fl, v2, v3, v4, rfl, s1, hfl, h1⟩ ⟨rfl, hx⟩
      obtain ⟨d, hd1, hd2⟩ := hd.get hx
      obtain ⟨q, hq, rfl⟩ := pyPs_get hd1
      obtain ⟨b, rfl, hb⟩ := dp_person hd2
      have hqm : q ∈ ps := List.mem_of_getElem? hq
      have nl := isName_len (hV.nm q hqm)
      have lets := isName_letters (hV.nm q hqm)
      have pp := hV.pc q hqm
      refine ⟨b, _, rfl, s1.seqT hb, rfl, _, _, rfl, _, _, rfl, rfl, ?_⟩
      refine ⟨_, rfl, q.1, rfl, fun D hD => ?_⟩
      refine lc_it (walk_str (z := q.1)) (fun j G => G = upd H2 D (.lst (ivs ((ixs q.1).take j)))) rfl (fun _ _ _ _ => trivial) ?_ ?_
      · rintro j x G G' hj rfl ⟨rfl, c, hc, rfl⟩
        have hcm : c ∈ TL.tl q.1 := by
          have hc' : (TL.tl q.1)[j]? = some c := by simpa using hc
          exact List.mem_of_getElem? hc'
        have hc2 := lets c hcm
        obtain ⟨rest, hrest⟩ := idx_letter c (by omega) hc2.1
        refine ⟨rfl, ?_, _, rfl, _, _, _, _, rfl, rfl, hrest, _, upd_same, ?_, ?_⟩
        · exact rfl
        · rw [ivs_len]
          refine szl (Nat.lt_of_le_of_lt (List.length_take_le _ _) ?_)
          have : q.1.length = q.1.cps.size := rfl
          omega
        · rw [upd_upd, ixs_take hc, ivs_app]
          have e : (((c - 97 : Nat) : Nat) : Int) = (c : Int) - 97 := by omega
          rw [e]
          rfl
      · rintro G rfl
        rw [ixs_all]
        have fl_len := flat_take hV i
        have il : (ixs q.1).length ≤ 8 := by
          unfold ixs
          rw [List.length_map, ← TL.len_tl]
          omega
        have s2 : Same H2 (upd H2 D (.lst (ivs (ixs q.1)))) := same_new hD
        have hGD : upd H2 D (.lst (ivs (ixs q.1))) D = some (.lst (ivs (ixs q.1))) := upd_same
        generalize upd H2 D (.lst (ivs (ixs q.1))) = G at *
        refine ⟨_, rfl, _, rfl, q.1, rfl, sz (by omega), (by show 1 ≤ sizeLine; decide), fun t1 ht1 => ?_⟩
        have s3 : Same G (upd G t1 (.lst [.int (q.1.length : Nat)])) := same_new ht1
        refine ⟨fl, t1, _, _, rfl, rfl, s3 _ _ (s2 _ _ h1), upd_same, ?_, fun c1 hc1 => ?_⟩
        · rw [ivs_len]
          exact sz (by simp only [List.length_append, List.length_cons, List.length_nil, ivs_len]; omega)
        have s4 := s3.trans (same_new (o := .lst (ivs (66 :: (ps.length : Int) :: (ps.take i).flatMap persB) ++ [.int (q.1.length : Nat)])) hc1)
        refine ⟨_, rfl, c1, D, _, _, rfl, rfl, upd_same, s4 _ _ hGD, ?_, fun c2 hc2 => ?_⟩
        · rw [List.length_append, ivs_len, ivs_len]
          exact sz (by simp only [List.length_append, List.length_cons, List.length_nil, ivs_len]; omega)
        have s5 := s4.trans (same_new (o := .lst (ivs (66 :: (ps.length : Int) :: (ps.take i).flatMap persB) ++ [.int (q.1.length : Nat)] ++ ivs (ixs q.1))) hc2)
        refine ⟨_, rfl, _, _, rfl, rfl, ⟨by decide, by decide⟩, _, rfl, _, _, rfl, rfl, (by show (0 : Int) < 256; decide), (by show 2 ≤ sizeLine; decide), fun t2 ht2 => ?_⟩
        have hct : c2 ≠ t2 := fun e => by rw [← e, upd_same] at ht2; cases ht2
        refine ⟨c2, t2, _, _, rfl, rfl, by rw [upd_ne hct]; exact upd_same, upd_same, ?_, fun c3 hc3 => ?_⟩
        · rw [List.length_append, List.length_append, ivs_len, ivs_len]
          exact sz (by simp only [List.length_append, List.length_cons, List.length_nil, ivs_len]; omega)
        have s6 := (s5.trans (same_new ht2)).trans (same_new (o := .lst (ivs (66 :: (ps.length : Int) :: (ps.take i).flatMap persB) ++ [.int (q.1.length : Nat)] ++ ivs (ixs q.1) ++ [.int (q.2 / 256), .int (q.2 % 256)])) hc3)
        refine ⟨c3, _, _, _, rfl, s1.trans (s2.trans s6), (s1.trans (s2.trans (s5.trans (same_new ht2)))).free hc3, ?_⟩
        rw [upd_same, flat_more hq]
        unfold persB
        simp [ivs, List.map_append]
    · rintro σ H' ⟨fl, v2, v3, v4, rfl, s1, hfl, h1⟩
      rw [hlen, List.take_length] at h1
      exact ⟨_, rfl, k _ _ s1 hfl h1⟩
abbrev s_encode_line : Stmt := top 26
theorem sc_encode_line : FnScope ["line", "values", "name", "pace", "letter"] ["line"] (defScope s_encode_line) := ⟨rfl, rfl, rfl, by decide +kernel, rfl, by decide +kernel, by decide +kernel⟩

theorem ok_encode {f : Addr} {fd : FuncData} (F : FnP K "encode_line" "encode_line" s_encode_line f fd) (T : Tx mg) (L : LineT K mg C) (pPeople : PropC P w K mg base 1 C "people" (spCrew C)) (lenLine : LenC P w K mg base 1 C (spLineLen K C)) (cSum : C8.Cal P w K mg base 1 "checksum" (spSum K) []) :
    FnOk P w K mg base CX0 3 f fd ["line"] (spEncode K C) := by
  refine F.ok sc_encode_line (fun vs H Q E h => ?_) (fun cdv A outer s H vs Q E hr h => ?_)
  · obtain ⟨_, _, rfl, _⟩ := h
    rfl
  · obtain ⟨v, ps, rfl, hL, hV, k⟩ := h
    obtain ⟨a, dx, cr, xs, rfl, ha, hcr, hd⟩ := id hL
    have hlen : xs.length = ps.length := by rw [hd.len]; unfold pyPs; simp
    refine ⟨_, PSs.nox 
      (pss_cons (ps_set (i := 1) sc_encode_line.nd rfl (.inl rfl) (pe_lst (pa_cons (C8.pe_gc rfl T.g_TAG) (pa_cons (pe_callB (c_lenL lenLine hr (by decide)) (by rfl) T.f_len PySem.boot_len (pa_cons (pv 0) pa_nil)) pa_nil))))
      (pss_cons (ps_for PassesOwn.never rfl (iT K (e_prop pPeople L.cl hr (by decide) (pv 0))) (g_tup K 2 rfl (pgs_cons (pg_name (i := 2) sc_encode_line.nd rfl (Or.inl rfl)) (pgs_cons (pg_name (i := 3) sc_encode_line.nd rfl (Or.inl rfl)) pgs_nil))) 
        (pss_cons (ps_expr (e_bm K PySem.F.plainAttrs_list PySem.F.slot_list_append PySem.F.type_list_append mt_append (pv 1) (pa_cons (pe_callB call_len_str (by rfl) T.f_len PySem.boot_len (pa_cons (pv 2) pa_nil)) pa_nil)))
        (pss_cons (ps_expr (e_bm K PySem.F.plainAttrs_list PySem.F.slot_list_extend PySem.F.type_list_extend mt_extend (pv 1) (pa_cons (pe_lc (own := [("letter", 4)]) rfl sc_encode_line.nd (pi_str (pv 2)) (blkOk_by (own := [("letter", 4)]) (N := ["line", "values", "name", "pace", "letter"]) (sc := defScope s_encode_line) (by decide +kernel)) (fun _ _ _ _ _ => (pg_name (i := 4) sc_encode_line.nd rfl (Or.inl rfl))) (fun _ _ _ _ _ => pts_nil) (fun _ _ _ _ _ => (e_bm K PySem.F.plainAttrs_str PySem.F.slot_str_index PySem.F.type_str_index mt_sindex (C8.pe_gc rfl T.g_LETTERS) (pa_cons (pv 4) pa_nil)))) pa_nil)))
        (pss_one (ps_expr (e_bm K PySem.F.plainAttrs_list PySem.F.slot_list_extend PySem.F.type_list_extend mt_extend (pv 1) (pa_cons (pe_lst (pa_cons (pe_op op_fdiv (pv 3) (C8.pe_gc rfl T.g_BYTE)) (pa_cons (pe_op op_mod (pe_callTy call_int1 (by rfl) T.f_int (by decide +kernel) (pa_cons (pv 3) pa_nil)) (C8.pe_gc rfl T.g_BYTE)) pa_nil))) pa_nil)))))))
      (pss_one (ps_ret (pe_lst (a_star K (pv 1) (pa_cons (C8.pe_c cSum hr (by decide) rfl (pa_cons (pv 1) pa_nil)) pa_nil))))))), ?_⟩
    refine ⟨_, rfl, a, dx, _, rfl, ha, a, ps, rfl, hL, _, rfl, by omega, by have := hV.hi; omega, (by show 2 ≤ sizeLine; decide), fun vl hvl => ?_⟩
    have s0 : Same H (upd H vl (.lst [.int 66, .int (ps.length : Nat)])) := same_new hvl
    refine ⟨_, rfl, a, dx, _, rfl, s0 _ _ ha, a, dx, cr, rfl, s0 _ _ ha, cr, rfl, ⟨_, SqT.of' (s0 _ _ hcr)⟩, for_it (walk_tup (K := K) (a := cr) (xs := xs)) (fun i σ H' => ∃ (v2 v3 : Option V), σ = [some (.ref a), some (.ref vl), v2, v3, none] ∧ Same H H' ∧
      H' vl = some (.lst (ivs (66 :: (ps.length : Int) :: (ps.take i).flatMap persB)))) ⟨none, none, rfl, s0, upd_same⟩ ?_ ?_ ?_⟩
    · rintro i σ H' _ ⟨_, _, _, s1, _⟩
      exact SqT.of' (s1 _ _ hcr)
    · rintro i x σ H' H2 hi ⟨v2, v3, rfl, s1, h1⟩ ⟨rfl, hx⟩
      obtain ⟨d, hd1, hd2⟩ := hd.get hx
      obtain ⟨q, hq, rfl⟩ := pyPs_get hd1
      obtain ⟨b, rfl, hb⟩ := dp_person hd2
      have hqm : q ∈ ps := List.mem_of_getElem? hq
      have nl := isName_len (hV.nm q hqm)
      have lets := isName_letters (hV.nm q hqm)
      have pp := hV.pc q hqm
      have fl_len := flat_take hV i
      have il : (ixs q.1).length ≤ 8 := by
        unfold ixs
        rw [List.length_map, ← TL.len_tl]
        omega
      refine ⟨b, _, rfl, s1.seqT hb, rfl, _, _, rfl, _, _, rfl, rfl, ?_⟩
      refine ⟨_, rfl, .inl ⟨rfl, _, SqL.of h1⟩, _, rfl, q.1, rfl, sz (by omega), vl, _, _, rfl, rfl, h1, ?_, ?_⟩
      · rw [ivs_len]
        exact szl (by simp only [List.length_append, List.length_cons, List.length_nil, ivs_len]; omega)
      have s2 : Same H (upd H2 vl (.lst (ivs (66 :: (ps.length : Int) :: (ps.take i).flatMap persB) ++ [.int (q.1.length : Nat)]))) := same_mut s1 hvl
      have h2 : upd H2 vl (.lst (ivs (66 :: (ps.length : Int) :: (ps.take i).flatMap persB) ++ [.int (q.1.length : Nat)])) vl = some (.lst (ivs (66 :: (ps.length : Int) :: (ps.take i).flatMap persB) ++ [.int (q.1.length : Nat)])) := upd_same
      generalize upd H2 vl (.lst (ivs (66 :: (ps.length : Int) :: (ps.take i).flatMap persB) ++ [.int (q.1.length : Nat)])) = G at *
      refine ⟨_, rfl, .inl ⟨rfl, _, SqL.of h2⟩, _, rfl, q.1, rfl, fun D hD => ?_⟩
      have hDv : D ≠ vl := fun e => by rw [e, h2] at hD; cases hD
      refine lc_it (walk_str (z := q.1)) (fun j G' => G' = upd G D (.lst (ivs ((ixs q.1).take j)))) rfl (fun _ _ _ _ => trivial) ?_ ?_
      · rintro j x G1 G' hj rfl ⟨rfl, c, hc, rfl⟩
        have hcm : c ∈ TL.tl q.1 := by
          have hc' : (TL.tl q.1)[j]? = some c := by simpa using hc
          exact List.mem_of_getElem? hc'
        have hc2 := lets c hcm
        obtain ⟨rest, hrest⟩ := idx_letter c (by omega) hc2.1
        refine ⟨rfl, rfl, _, rfl, _, _, _, _, rfl, rfl, hrest, _, upd_same, ?_, ?_⟩
        · rw [ivs_len]
          refine szl (Nat.lt_of_le_of_lt (List.length_take_le _ _) ?_)
          have : q.1.length = q.1.cps.size := rfl
          omega
        · rw [upd_upd, ixs_take hc, ivs_app]
          have e : (((c - 97 : Nat) : Nat) : Int) = (c : Int) - 97 := by omega
          rw [e]
          rfl
      · rintro G1 rfl
        rw [ixs_all]
        refine ⟨vl, D, _, _, rfl, rfl, by rw [upd_ne (Ne.symm hDv)]; exact h2, upd_same, ?_, ?_⟩
        · rw [List.length_append, ivs_len, ivs_len]
          exact sz (by simp only [List.length_append, List.length_cons, List.length_nil, ivs_len]; omega)
        have s3 : Same H (upd (upd G D (.lst (ivs (ixs q.1)))) vl (.lst (ivs (66 :: (ps.length : Int) :: (ps.take i).flatMap persB) ++ [.int (q.1.length : Nat)] ++ ivs (ixs q.1)))) := same_mut (s2.trans (same_new hD)) hvl
        have h3 : upd (upd G D (.lst (ivs (ixs q.1)))) vl (.lst (ivs (66 :: (ps.length : Int) :: (ps.take i).flatMap persB) ++ [.int (q.1.length : Nat)] ++ ivs (ixs q.1))) vl = some (.lst (ivs (66 :: (ps.length : Int) :: (ps.take i).flatMap persB) ++ [.int (q.1.length : Nat)] ++ ivs (ixs q.1))) := upd_same
        generalize upd (upd G D (.lst (ivs (ixs q.1)))) vl (.lst (ivs (66 :: (ps.length : Int) :: (ps.take i).flatMap persB) ++ [.int (q.1.length : Nat)] ++ ivs (ixs q.1))) = G2 at *
        refine ⟨_, rfl, .inl ⟨rfl, _, SqL.of h3⟩, ?_⟩
        refine ⟨_, rfl, _, _, rfl, rfl, ⟨by decide, by decide⟩, _, rfl, .inl ⟨_, rfl, _, _, rfl, rfl, (by show (0 : Int) < 256; decide), (by show 2 ≤ sizeLine; decide), fun t2 ht2 => ?_⟩⟩
        have hvt : vl ≠ t2 := ne_of_none h3 ht2
        refine ⟨vl, t2, _, _, rfl, rfl, by rw [upd_ne hvt]; exact h3, upd_same, ?_, _, _, rfl, same_mut (s3.trans (same_new ht2)) hvl, ?_⟩
        · rw [List.length_append, List.length_append, ivs_len, ivs_len]
          exact sz (by simp only [List.length_append, List.length_cons, List.length_nil, ivs_len]; omega)
        · rw [upd_same, flat_more hq]
          unfold persB
          simp [ivs, List.map_append]
    · rintro σ H' ⟨v2, v3, rfl, s1, h1⟩
      rw [hlen, List.take_length] at h1
      have bl := bytes_len hV
      refine ⟨_, rfl, vl, _, rfl, .inr (SqL.of h1), _, rfl, vl, bytesOf ps, rfl, SqL.of h1, ?_, fun p hp => ?_⟩
      · rw [List.length_append]
        show (ivs (bytesOf ps)).length + 1 ≤ sizeLine
        rw [ivs_len]
        exact sz (by omega)
      · refine k _ p (s1.trans (same_new hp)) (s1.free hp) ?_
        rw [upd_same]
        unfold codeOf
        rw [ivs_app]
        rfl
end
end Bk
namespace Bk
open PySem PySem.Spec PyProof.Rows L2
def decF (a : Addr) (i : Int) : List (Str × V) := [("data", .ref a), ("place", .int i)]
theorem dp_ne : ¬ (("data" : Str) = "place") := by decide +kernel
theorem pd_ne : ¬ (("place" : Str) = "data") := by decide +kernel
theorem decF_put {a : Addr} {i j : Int} : putF "place" (.int j) (decF a i) = decF a j := by
  unfold decF
  show (if ("data" : Str) = "place" then _ else (("data" : Str), V.ref a) :: (if ("place" : Str) = "place" then [(("place" : Str), V.int j)] else _)) = _
  rw [if_neg dp_ne, if_pos rfl]
theorem decF_new {a : Addr} : putF "place" (.int 0) (putF "data" (.ref a) []) = decF a 0 := by
  show (if ("data" : Str) = "place" then _ else (("data" : Str), V.ref a) :: [(("place" : Str), V.int 0)]) = _
  rw [if_neg dp_ne]
  rfl
theorem decF_data {a : Addr} {i : Int} : (decF a i).lookup ("data" : Str) = some (.ref a) := by
  unfold decF
  simp [List.lookup]
theorem decF_place {a : Addr} {i : Int} : (decF a i).lookup ("place" : Str) = some (.int i) := by
  have h : (("place" : Str) == "data") = false := by decide +kernel
  unfold decF
  simp [List.lookup, h]
theorem decF_no {a : Addr} {i : Int} {m : Str} (h1 : (m == "data") = false) (h2 : (m == "place") = false) : (decF a i).lookup m = none := by
  unfold decF
  simp [List.lookup, h1, h2]
structure DecT (K : PySem.W.Frag) (CD : Addr) : Prop where
  cl : Cls K CD
  nD : NoAttr K CD "data"
  nP : NoAttr K CD "place"
def spDecInit (CD : Addr) : Sp := fun vs H Q _ => ∃ x dx da, vs = [.ref x, .ref da] ∧ H x = some (.ins CD dx []) ∧ Q .non (upd H x (.ins CD dx (decF da 0)))
def spTake (CD : Addr) : Sp := fun vs H Q _ => ∃ (x dx da : Addr) (i : Nat) (l : List Int) (v low high : Int), vs = [.ref x, .int low, .int high] ∧ H x = some (.ins CD dx (decF da i)) ∧ H da = some (.lst (ivs l)) ∧ l[i]? = some v ∧ low ≤ v ∧ v ≤ high ∧
  Q (.int v) (upd H x (.ins CD dx (decF da ((i : Int) + 1))))
def spPers (K : PySem.W.Frag) (CD : Addr) : Sp := fun vs H Q _ => ∃ (x dx da nl : Addr) (l pre post : List Int) (p : Person) (names : List Str), vs = [.ref x, .ref nl] ∧ H x = some (.ins CD dx (decF da pre.length)) ∧ H da = some (.lst (ivs l)) ∧ l = pre ++ (persB p ++ post) ∧
  H nl = some (.lst (names.map V.str)) ∧ isName p.1 = true ∧ (1 ≤ p.2 ∧ p.2 ≤ 1000) ∧ p.1 ∉ names ∧
  ∀ H' t, Same (delH H x) H' → H' x = some (.ins CD dx (decF da ((pre ++ persB p).length : Nat))) → H t = none → H' t = some (.tup [.str p.1, .int p.2]) → Q (.ref t) H'
section
variable {P : Program} {w : World} {K : PySem.W.Frag} {mg : Str → Option Value} {base : Heap} {C CD : Addr}
abbrev s_Decoder___init__ : Stmt := inClass (top 27) 0
theorem sc_Decoder___init__ : FnScope ["self", "data"] ["self", "data"] (defScope s_Decoder___init__) := ⟨rfl, rfl, rfl, by decide +kernel, rfl, by decide +kernel, by decide +kernel⟩

theorem ok_decInit {f : Addr} {fd : FuncData} (F : FnP K "__init__" "Decoder.__init__" s_Decoder___init__ f fd) (D : DecT K CD) : FnOk P w K mg base CX0 1 f fd ["self", "data"] (spDecInit CD) := by
  refine F.ok sc_Decoder___init__ (fun vs H Q E h => ?_) (fun cdv A outer s H vs Q E hr h => ?_)
  · obtain ⟨_, _, _, rfl, _⟩ := h
    rfl
  · obtain ⟨x, dx, da, rfl, hx, k⟩ := h
    refine ⟨_, PSs.nox 
      (pss_cons (ps_fld (pv 0) (pv 1) rfl)
      (pss_one (ps_fld (pv 0) pe_int rfl))), ?_⟩
    refine ⟨_, rfl, _, rfl, x, CD, dx, _, rfl, hx, D.cl, D.nD, (by show 0 < 1000; decide), _, rfl, x, CD, dx, _, rfl, upd_same, D.cl, D.nP, (by show 1 < 1000; decide), ?_⟩
    rw [upd_upd, decF_new]
    exact k
abbrev s_Decoder_take : Stmt := inClass (top 27) 1
theorem sc_Decoder_take : FnScope ["self", "low", "high"] ["self", "low", "high"] (defScope s_Decoder_take) := ⟨rfl, rfl, rfl, by decide +kernel, rfl, by decide +kernel, by decide +kernel⟩

theorem ok_take {f : Addr} {fd : FuncData} (F : FnP K "take" "Decoder.take" s_Decoder_take f fd) (T : Tx mg) (D : DecT K CD) : FnOk P w K mg base CX0 1 f fd ["self", "low", "high"] (spTake CD) := by
  refine F.ok sc_Decoder_take (fun vs H Q E h => ?_) (fun cdv A outer s H vs Q E hr h => ?_)
  · obtain ⟨_, _, _, _, _, _, _, _, rfl, _⟩ := h
    rfl
  · obtain ⟨x, dx, da, i, l, v, low, high, rfl, hx, hda, hv, h1, h2, k⟩ := h
    have hi : i < l.length := (List.getElem?_eq_some_iff.mp hv).1
    have hxd : da ≠ x := ne_of hda hx (by intro z; cases z)
    refine ⟨_, PSs.nox 
      (pss_cons (ps_if (PW.pt (pw_or (pt_cmpR op_eq (e_fld K (pv 0)) (pe_callB (c_len K) (by rfl) T.f_len PySem.boot_len (pa_cons (e_fld K (pv 0)) pa_nil)) (nomark _)) (pw_or1 (pt_not (pt_chain op_le op_le (pv 1) (pe_ix (ixL K) (e_fld K (pv 0)) (e_fld K (pv 0)) (fun _ _ => rfl)) (pv 2)))))) 
        (pss_one ps_never) pss_nil)
      (pss_cons (ps_fldaug (pv 0) pe_int in_add)
      (pss_one (ps_ret (pe_ix (ixL K) (e_fld K (pv 0)) (pe_op op_sub (e_fld K (pv 0)) pe_int) (fun _ _ => rfl)))))), ?_⟩
    refine ⟨_, rfl, x, CD, dx, _, _, rfl, hx, D.cl, D.nP, decF_place, _, rfl, x, CD, dx, _, _, rfl, hx, D.cl, D.nD, decF_data, da, _, rfl, .inl (SqL.of hda), rfl, _, rfl, ?_⟩
    rw [ivs_len]
    refine iteD (fun h0 => absurd (vint.mp h0) (by omega)) (fun _ => ?_)
    refine ⟨_, rfl, _, rfl, x, CD, dx, _, _, rfl, hx, D.cl, D.nD, decF_data, _, rfl, x, CD, dx, _, _, rfl, hx, D.cl, D.nP, decF_place, da, _, _, _, rfl, rfl, SqL.of hda, atI_nat (ivs_at hv), _, _, rfl, rfl, _, rfl, ?_⟩
    rw [decide_eq_true h1]
    refine iteT ⟨_, rfl, _, _, rfl, rfl, _, rfl, ?_⟩
    rw [decide_eq_true h2]
    refine iteF ?_
    refine ⟨_, rfl, x, CD, dx, _, _, rfl, hx, D.cl, D.nP, decF_place, _, _, rfl, rfl, dx, _, hx, (by show 2 < 1000; decide), ?_⟩
    rw [decF_put]
    refine ⟨_, rfl, x, CD, dx, _, _, rfl, upd_same, D.cl, D.nD, decF_data, _, rfl, x, CD, dx, _, _, rfl, upd_same, D.cl, D.nP, decF_place, _, _, rfl, rfl, da, _, _, _, rfl, rfl, SqL.of (by rw [upd_ne hxd]; exact hda), ?_, k⟩
    have e : (i : Int) + 1 - 1 = (i : Int) := by omega
    rw [e]
    exact atI_nat (ivs_at hv)
theorem get_mid {A B : List Int} {b : Int} : (A ++ b :: B)[A.length]? = some b := by simp
theorem join_chars (cs : List Nat) : Txt.join "" (cs.map fun c => (⟨#[c]⟩ : Str)) = ⟨cs.toArray⟩ := by
  refine TL.ext_tl ?_
  rw [TL.join_eq, TL.tl_join, TL.tl_mk, List.map_map]
  have e : TL.tl ("" : Str) = [] := by decide +kernel
  show TL.joinL (TL.tl ("" : Str)) _ = cs
  rw [show TL.tl ("" : Str) = [] from e]
  induction cs with
  | nil => rfl
  | cons c cs ih =>
    cases cs with
    | nil => rfl
    | cons d cs =>
      show [c] ++ ([] ++ TL.joinL [] (List.map (TL.tl ∘ fun c => (⟨#[c]⟩ : Str)) (d :: cs))) = c :: d :: cs
      rw [ih]
      rfl
abbrev s_Decoder_take_person : Stmt := inClass (top 27) 2
theorem sc_Decoder_take_person : FnScope ["self", "names", "start", "length", "name", "high", "least", "most", "letter"] ["self", "names"] (defScope s_Decoder_take_person) := ⟨rfl, rfl, rfl, by decide +kernel, rfl, by decide +kernel, by decide +kernel⟩

theorem ok_pers {f : Addr} {fd : FuncData} (F : FnP K "take_person" "Decoder.take_person" s_Decoder_take_person f fd) (T : Tx mg) (D : DecT K CD) (L : LineT K mg C) (mTake : C8.Met P w K mg base 1 CD "take" (spTake CD) []) : FnOk P w K mg base CX0 2 f fd ["self", "names"] (spPers K CD) := by
  refine F.ok sc_Decoder_take_person (fun vs H Q E h => ?_) (fun cdv A outer s H vs Q E hr h => ?_)
  · obtain ⟨_, _, _, _, _, _, _, _, _, rfl, _⟩ := h
    rfl
  · obtain ⟨x, dx, da, nl, l, pre, post, p, names, rfl, hx, hda, hl, hnl, hnm, hpc, hnin, k⟩ := h
    obtain ⟨mc, cr, ⟨u1, cv1⟩, ⟨u2, cv2⟩⟩ := L.mc
    have hxd : da ≠ x := ne_of hda hx (by intro z; cases z)
    have hxn : nl ≠ x := ne_of hnl hx (by intro z; cases z)
    have nlen := isName_len hnm
    have lets := isName_letters hnm
    have il : (ixs p.1).length = p.1.length := by
      unfold ixs
      rw [List.length_map, ← TL.len_tl]
    have lLen : l[pre.length]? = some (p.1.length : Int) := by rw [hl]; unfold persB; exact get_mid
    have lHi : l[pre.length + 1 + (ixs p.1).length]? = some (p.2 / 256) := by
      have e : l = (pre ++ (p.1.length : Int) :: ixs p.1) ++ (p.2 / 256) :: (p.2 % 256 :: post) := by rw [hl]; unfold persB; simp
      have e2 : pre.length + 1 + (ixs p.1).length = (pre ++ (p.1.length : Int) :: ixs p.1).length := by simp; omega
      rw [e2, e]
      exact get_mid
    have lLow : l[pre.length + 1 + (ixs p.1).length + 1]? = some (p.2 % 256) := by
      have e : l = (pre ++ (p.1.length : Int) :: (ixs p.1 ++ [p.2 / 256])) ++ (p.2 % 256) :: post := by rw [hl]; unfold persB; simp
      have e2 : pre.length + 1 + (ixs p.1).length + 1 = (pre ++ (p.1.length : Int) :: (ixs p.1 ++ [p.2 / 256])).length := by simp; omega
      rw [e2, e]
      exact get_mid
    refine ⟨_, PSs.nox 
      (pss_cons (ps_set (i := 2) sc_Decoder_take_person.nd rfl (.inl rfl) (e_fld K (pv 0)))
      (pss_cons (ps_set (i := 3) sc_Decoder_take_person.nd rfl (.inl rfl) (C8.pe_mt mTake hr (by decide) (pv 0) (pa_cons pe_int (pa_cons (C8.pe_gc rfl T.g_MAX_LETTERS) pa_nil))))
      (pss_cons (ps_set (i := 4) sc_Decoder_take_person.nd rfl (.inl rfl) (e_join K pe_str (pe_lc (own := [("letter", 8)]) rfl sc_Decoder_take_person.nd (pi_range1 rfl T.f_range (pa_cons (pv 3) pa_nil)) (blkOk_by (own := [("letter", 8)]) (N := ["self", "names", "start", "length", "name", "high", "least", "most", "letter"]) (sc := defScope s_Decoder_take_person) (by decide +kernel)) (fun _ _ _ _ _ => (pg_name (i := 8) sc_Decoder_take_person.nd rfl (Or.inl rfl))) (fun _ _ _ _ _ => pts_nil) (fun _ _ _ _ _ => (pe_ix ix_str (C8.pe_gc rfl T.g_LETTERS) (C8.pe_mt mTake hr (by decide) (pv 0) (pa_cons pe_int (pa_cons (pe_op op_sub (pe_callB call_len_str (by rfl) T.f_len PySem.boot_len (pa_cons (C8.pe_gc rfl T.g_LETTERS) pa_nil)) pe_int) pa_nil))) (fun _ _ => rfl))))))
      (pss_cons (ps_if (pt_cmpR (o_in K) (pv 4) (pv 1) rfl) 
        (pss_one ps_never) pss_nil)
      (pss_cons (ps_set (i := 5) sc_Decoder_take_person.nd rfl (.inl rfl) (C8.pe_mt mTake hr (by decide) (pv 0) (pa_cons pe_int (pa_cons (pe_op op_fdiv (e_cval K (C8.pe_gc rfl L.g)) (C8.pe_gc rfl T.g_BYTE)) pa_nil))))
      (pss_cons (ps_par (i := 6) (j := 7) (by rfl) sc_Decoder_take_person.nd rfl rfl (by decide) rfl rfl (pa_cons (pe_ifExp (pt_cmpR op_eq (pv 5) pe_int (nomark _)) pe_int pe_int) (pa_cons (pe_callB (call_min2 rfl) (by rfl) T.f_min (by decide +kernel) (pa_cons (pe_op op_sub (C8.pe_gc rfl T.g_BYTE) pe_int) (pa_cons (pe_op op_sub (e_cval K (C8.pe_gc rfl L.g)) (pe_op op_mul (pv 5) (C8.pe_gc rfl T.g_BYTE))) pa_nil))) pa_nil)) (by rfl))
      (pss_one (ps_ret (pe_tup (pa_cons (pv 4) (pa_cons (pe_op op_add (pe_op op_mul (pv 5) (C8.pe_gc rfl T.g_BYTE)) (C8.pe_mt mTake hr (by decide) (pv 0) (pa_cons (pv 6) (pa_cons (pv 7) pa_nil)))) pa_nil))))))))))), ?_⟩
    refine ⟨_, rfl, x, CD, dx, _, _, rfl, hx, D.cl, D.nP, decF_place, ?_⟩
    refine ⟨_, rfl, x, dx, _, rfl, hx, decF_no (by decide +kernel) (by decide +kernel), x, dx, da, pre.length, l, _, _, _, rfl, hx, hda, lLen, by omega, by omega, ?_⟩
    have s1 : Same (delH H x) (upd H x (.ins CD dx (decF da (((pre.length : Nat) : Int) + 1)))) := same_mut same_del delH_same
    have h1x : upd H x (.ins CD dx (decF da (((pre.length : Nat) : Int) + 1))) x = some (.ins CD dx (decF da (((pre.length : Nat) : Int) + 1))) := upd_same
    have fr1 : ∀ t, t ≠ x → upd H x (.ins CD dx (decF da (((pre.length : Nat) : Int) + 1))) t = none → H t = none := fun t ht h => by rw [upd_ne ht] at h; exact h
    generalize upd H x (.ins CD dx (decF da (((pre.length : Nat) : Int) + 1))) = H1 at *
    refine ⟨⟨_, rfl⟩, _, rfl, _, rfl, by omega, by omega, fun Dl hDl => ?_⟩
    have hDx : Dl ≠ x := fun e => by rw [e, h1x] at hDl; cases hDl
    have hDH := fr1 Dl hDx hDl
    refine lc_it (walk_range (lo := 0) (n := p.1.length)) (fun j G => G x = some (.ins CD dx (decF da (((pre.length + 1 + j : Nat) : Nat) : Int))) ∧ G Dl = some (.lst ((((TL.tl p.1).take j).map fun c => (⟨#[c]⟩ : Str)).map V.str)) ∧ Same (delH H x) G)
      ⟨by rw [upd_ne (Ne.symm hDx), h1x]; rfl, upd_same, s1.trans (same_new hDl)⟩ (fun _ _ _ _ => trivial) ?_ ?_
    · rintro j y G G' hj ⟨g1, g2, g3⟩ ⟨rfl, rfl⟩
      have hjt : j < (TL.tl p.1).length := by rw [← TL.len_tl]; exact hj
      have hc2 := lets _ (List.getElem_mem hjt)
      have hjl : l[pre.length + 1 + j]? = some (((TL.tl p.1)[j] : Nat) - 97 : Int) := by
        have e : l = pre ++ ((p.1.length : Int) :: ixs p.1 ++ ([p.2 / 256, p.2 % 256] ++ post)) := by rw [hl]; unfold persB; simp
        rw [e, List.getElem?_append_right (by omega)]
        have e2 : pre.length + 1 + j - pre.length = j + 1 := by omega
        rw [e2, List.cons_append, List.getElem?_cons_succ, List.getElem?_append_left (by omega)]
        unfold ixs
        rw [List.getElem?_map, List.getElem?_eq_getElem hjt]
        rfl
      have gda : G' da = some (.lst (ivs l)) := g3 _ _ (by rw [delH_ne hxd]; exact hda)
      refine ⟨rfl, _, rfl, x, dx, _, rfl, g1, decF_no (by decide +kernel) (by decide +kernel), _, rfl, sz (by decide +kernel), _, _, rfl, rfl, ?_⟩
      have l26 : (("abcdefghijklmnopqrstuvwxyz" : Str).length : Int) = 26 := by decide +kernel
      refine ⟨x, dx, da, pre.length + 1 + j, l, _, _, _, rfl, g1, gda, hjl, by omega, by omega, ?_⟩
      refine ⟨_, _, _, rfl, rfl, sz (by decide +kernel), at_letter _ (by omega) hc2.1, ?_⟩
      refine ⟨_, by rw [upd_ne hDx]; exact g2, ?_, ?_, ?_, ?_⟩
      · rw [List.length_map, List.length_map]
        refine szl (Nat.lt_of_le_of_lt (List.length_take_le _ _) ?_)
        omega
      · rw [upd_ne (Ne.symm hDx), upd_same]
        have e : (((pre.length + 1 + j : Nat) : Nat) : Int) + 1 = ((pre.length + 1 + (j + 1) : Nat) : Int) := by omega
        rw [e]
      · rw [upd_same, List.take_add_one, List.getElem?_eq_getElem hjt]
        simp
      · exact same_mut (same_mut g3 delH_same) (by rw [delH_ne hDx]; exact hDH)
    · rintro G ⟨hGx, g2, s3⟩
      have e : (TL.tl p.1).take p.1.length = TL.tl p.1 := by rw [TL.len_tl, List.take_length]
      rw [e] at g2
      refine ⟨_, Dl, (TL.tl p.1).map fun c => (⟨#[c]⟩ : Str), rfl, rfl, .inl (SqL.of g2), ?_, ?_⟩
      · have g : ∀ cs : List Nat, ((cs.map fun c => (⟨#[c]⟩ : Str)).map (·.length)).sum = cs.length := by
          intro cs
          induction cs with
          | nil => rfl
          | cons c cs ih =>
            show 1 + ((cs.map fun c => (⟨#[c]⟩ : Str)).map (·.length)).sum = cs.length + 1
            rw [ih]
            omega
        have h0 : ("" : Str).length = 0 := by decide +kernel
        rw [g, h0, ← TL.len_tl]
        omega
      rw [join_chars]
      have en : (⟨(TL.tl p.1).toArray⟩ : Str) = p.1 := TL.mk_tl p.1
      rw [en]
      have hGda : G da = some (.lst (ivs l)) := s3 _ _ (by rw [delH_ne hxd]; exact hda)
      have hGnl : G nl = some (.lst (names.map V.str)) := s3 _ _ (by rw [delH_ne hxn]; exact hnl)
      refine ⟨_, rfl, _, rfl, nl, _, rfl, .inl (SqL.of hGnl), rfl, strs_flat _, _, rfl, ?_⟩
      have hin : inV (.str p.1) (names.map V.str) = false := by rw [inV_strs]; exact decide_eq_false hnin
      rw [hin]
      refine iteF ?_
      have eix : pre.length + 1 + p.1.length = pre.length + 1 + (ixs p.1).length := by rw [il]
      rw [eix] at hGx
      refine ⟨_, rfl, x, dx, _, rfl, hGx, decF_no (by decide +kernel) (by decide +kernel), C, mc, _, u2, rfl, cr, cv2, _, _, rfl, rfl, ⟨by decide, by decide⟩, ?_⟩
      refine ⟨x, dx, da, _, l, _, _, _, rfl, hGx, hGda, lHi, by omega, by omega, ?_⟩
      have s4 : Same (delH H x) (upd G x (.ins CD dx (decF da ((((pre.length + 1 + (ixs p.1).length : Nat) : Nat) : Int) + 1)))) := same_mut s3 delH_same
      have freeG : ∀ t, t ≠ x → G t = none → H t = none := fun t ht h => by
        cases q : H t with
        | none => rfl
        | some o =>
          rw [s3 t o (by rw [delH_ne ht]; exact q)] at h
          cases h
      have h4x : upd G x (.ins CD dx (decF da ((((pre.length + 1 + (ixs p.1).length : Nat) : Nat) : Int) + 1))) x = some (.ins CD dx (decF da (((pre.length + 1 + (ixs p.1).length + 1 : Nat) : Nat) : Int))) := by rw [upd_same]; rfl
      have h4da : upd G x (.ins CD dx (decF da ((((pre.length + 1 + (ixs p.1).length : Nat) : Nat) : Int) + 1))) da = some (.lst (ivs l)) := by rw [upd_ne hxd]; exact hGda
      have free4 : ∀ t, t ≠ x → upd G x (.ins CD dx (decF da ((((pre.length + 1 + (ixs p.1).length : Nat) : Nat) : Int) + 1))) t = none → H t = none := fun t ht h => freeG t ht (by rw [upd_ne ht] at h; exact h)
      clear hGx hGda s3 g2
      generalize upd G x (.ins CD dx (decF da ((((pre.length + 1 + (ixs p.1).length : Nat) : Nat) : Int) + 1))) = G2 at *
      clear freeG hGnl
      refine ⟨_, rfl, rfl, _, rfl, ?_⟩
      refine iteD (fun h0 => ?_) (fun h0 => ?_)
      · have h0 : p.2 / 256 = 0 := vint.mp h0
        refine ⟨_, _, rfl, rfl, C, mc, _, u2, rfl, cr, cv2, _, rfl, _, _, rfl, rfl, .inr ⟨by decide, by decide⟩, _, _, rfl, rfl, _, _, rfl, ?_⟩
        refine ⟨_, _, rfl, ?_⟩
        refine ⟨_, rfl, _, rfl, _, _, rfl, rfl, .inr ⟨by decide, by decide⟩, _, rfl, x, dx, _, rfl, h4x, decF_no (by decide +kernel) (by decide +kernel), _, rfl, _, rfl, ?_⟩
        refine ⟨x, dx, da, _, l, _, _, _, rfl, h4x, h4da, lLow, by omega, ?_, ?_⟩
        · split <;> omega
        refine ⟨_, _, rfl, rfl, (by show 2 ≤ sizeLine; decide), fun t ht => ?_⟩
        have htx : t ≠ x := fun e => by rw [e, upd_same] at ht; cases ht
        have htG : G2 t = none := by rw [upd_ne htx] at ht; exact ht
        refine k _ t ((same_mut s4 delH_same).trans (same_new ht)) ?_ ?_ ?_
        · rw [upd_ne (Ne.symm htx), upd_same]
          have e : (((pre.length + 1 + (ixs p.1).length + 1 : Nat) : Nat) : Int) + 1 = (((pre ++ persB p).length : Nat) : Int) := by
            unfold persB
            simp only [List.length_append, List.length_cons, List.length_nil]
            omega
          rw [e]
        · exact free4 t htx htG
        · rw [upd_same]
          have e : p.2 / 256 * 256 + p.2 % 256 = p.2 := by omega
          show some (HO.tup [V.str p.1, V.int (p.2 / 256 * 256 + p.2 % 256)]) = _
          rw [e]
      · have h0 : ¬ p.2 / 256 = 0 := fun z => h0 (vint.mpr z)
        refine ⟨_, _, rfl, rfl, C, mc, _, u2, rfl, cr, cv2, _, rfl, _, _, rfl, rfl, .inr ⟨by decide, by decide⟩, _, _, rfl, rfl, _, _, rfl, ?_⟩
        refine ⟨_, _, rfl, ?_⟩
        refine ⟨_, rfl, _, rfl, _, _, rfl, rfl, .inr ⟨by decide, by decide⟩, _, rfl, x, dx, _, rfl, h4x, decF_no (by decide +kernel) (by decide +kernel), _, rfl, _, rfl, ?_⟩
        refine ⟨x, dx, da, _, l, _, _, _, rfl, h4x, h4da, lLow, by omega, ?_, ?_⟩
        · split <;> omega
        refine ⟨_, _, rfl, rfl, (by show 2 ≤ sizeLine; decide), fun t ht => ?_⟩
        have htx : t ≠ x := fun e => by rw [e, upd_same] at ht; cases ht
        have htG : G2 t = none := by rw [upd_ne htx] at ht; exact ht
        refine k _ t ((same_mut s4 delH_same).trans (same_new ht)) ?_ ?_ ?_
        · rw [upd_ne (Ne.symm htx), upd_same]
          have e : (((pre.length + 1 + (ixs p.1).length + 1 : Nat) : Nat) : Int) + 1 = (((pre ++ persB p).length : Nat) : Int) := by
            unfold persB
            simp only [List.length_append, List.length_cons, List.length_nil]
            omega
          rw [e]
        · exact free4 t htx htG
        · rw [upd_same]
          have e : p.2 / 256 * 256 + p.2 % 256 = p.2 := by omega
          show some (HO.tup [V.str p.1, V.int (p.2 / 256 * 256 + p.2 % 256)]) = _
          rw [e]
end
end Bk
namespace Bk
open PySem PySem.Spec PyProof.Rows L2
def spDecode (K : PySem.W.Frag) (C : Addr) : Sp := fun vs H Q _ => ∃ (c : Addr) (ps : List Person), vs = [.ref c] ∧ H c = some (.lst (ivs (codeOf ps))) ∧ Valid ps ∧ ∀ H' v, Same H H' → IsLine K C H' v ps → Q v H'
section
variable {P : Program} {w : World} {K : PySem.W.Frag} {mg : Str → Option Value} {base : Heap} {C CD : Addr}
theorem names_map {ps : List Person} {K : PySem.W.Frag} {H : Hp} : True := trivial
theorem flat_split {ps : List Person} {i : Nat} {p : Person} (h : ps[i]? = some p) : ps.flatMap persB = (ps.take i).flatMap persB ++ (persB p ++ (ps.drop (i + 1)).flatMap persB) := by
  have hi : i < ps.length := (List.getElem?_eq_some_iff.mp h).1
  have e : ps = ps.take i ++ (p :: ps.drop (i + 1)) := by
    have e2 : ps[i] = p := (List.getElem?_eq_some_iff.mp h).2
    rw [← e2, ← List.drop_eq_getElem_cons hi, List.take_append_drop]
  conv => lhs; rw [e]
  rw [List.flatMap_append, List.flatMap_cons]
abbrev s_decode_line : Stmt := top 28
theorem sc_decode_line : FnScope ["data", "decoder", "people", "number", "expected", "name", "pace"] ["data"] (defScope s_decode_line) := ⟨rfl, rfl, rfl, by decide +kernel, rfl, by decide +kernel, by decide +kernel⟩

theorem ok_decode {f : Addr} {fd : FuncData} (F : FnP K "decode_line" "decode_line" s_decode_line f fd) (T : Tx mg) (D : DecT K CD) (L : LineT K mg C) (mkD : C8.Mak P w K mg base 1 "Decoder" CD (spDecInit CD) []) (mTake : C8.Met P w K mg base 1 CD "take" (spTake CD) [])
    (mPers : C8.Met P w K mg base 2 CD "take_person" (spPers K CD) []) (cSum : C8.Cal P w K mg base 1 "checksum" (spSum K) []) (mkL : MkL P w K mg base C) : FnOk P w K mg base CX0 4 f fd ["data"] (spDecode K C) := by
  refine F.ok sc_decode_line (fun vs H Q E h => ?_) (fun cdv A outer s H vs Q E hr h => ?_)
  · obtain ⟨_, _, rfl, _⟩ := h
    rfl
  · obtain ⟨c, ps, rfl, hc, hV, k⟩ := h
    obtain ⟨mc, cr, ⟨u1, cv1⟩, ⟨u2, cv2⟩⟩ := L.mc
    refine ⟨_, PSs.nox 
      (pss_cons (ps_par (i := 1) (j := 2) (by rfl) sc_decode_line.nd rfl rfl (by decide) rfl rfl (pa_cons (C8.pe_mk mkD hr (by decide) rfl (pa_cons (pv 0) pa_nil)) (pa_cons (pe_lst pa_nil) pa_nil)) (by rfl))
      (pss_cons (ps_expr (C8.pe_mt mTake hr (by decide) (pv 1) (pa_cons (C8.pe_gc rfl T.g_TAG) (pa_cons (C8.pe_gc rfl T.g_TAG) pa_nil))))
      (pss_cons (ps_for PassesOwn.never rfl (pi_range1 rfl T.f_range (pa_cons (C8.pe_mt mTake hr (by decide) (pv 1) (pa_cons pe_int (pa_cons (e_cval K (C8.pe_gc rfl L.g)) pa_nil))) pa_nil)) (pg_name (i := 3) sc_decode_line.nd rfl (Or.inl rfl)) 
        (pss_one (ps_expr (e_bm K PySem.F.plainAttrs_list PySem.F.slot_list_append PySem.F.type_list_append mt_append (pv 2) (pa_cons (C8.pe_mt mPers hr (by decide) (pv 1) (pa_cons (pe_lc (own := [("name", 5), ("pace", 6)]) rfl sc_decode_line.nd (iL K (pv 2)) (blkOk_by (own := [("name", 5), ("pace", 6)]) (N := ["data", "decoder", "people", "number", "expected", "name", "pace"]) (sc := defScope s_decode_line) (by decide +kernel)) (fun _ _ _ _ _ => (g_tup K 2 rfl (pgs_cons (pg_name (i := 5) sc_decode_line.nd rfl (Or.inl rfl)) (pgs_cons (pg_name (i := 6) sc_decode_line.nd rfl (Or.inl rfl)) pgs_nil)))) (fun _ _ _ _ _ => pts_nil) (fun _ _ _ _ _ => (pv 5))) pa_nil)) pa_nil)))))
      (pss_cons (ps_set (i := 4) sc_decode_line.nd rfl (.inl rfl) (C8.pe_c cSum hr (by decide) rfl (pa_cons (pe_slice (slL K) (pv 0) po_none (po_some (e_fld K (pv 1)))) pa_nil)))
      (pss_cons (ps_expr (C8.pe_mt mTake hr (by decide) (pv 1) (pa_cons (pv 4) (pa_cons (pv 4) pa_nil))))
      (pss_cons (ps_if (pt_cmpR op_lt (e_fld K (pv 1)) (pe_callB (c_len K) (by rfl) T.f_len PySem.boot_len (pa_cons (pv 0) pa_nil)) (nomark _)) 
        (pss_one ps_never) pss_nil)
      (pss_one (ps_ret (pe_line mkL hr (by decide) (by rfl) (pv 2)))))))))), ?_⟩
    have bl := bytes_len hV
    have cl : (codeOf ps).length = (bytesOf ps).length + 1 := by unfold codeOf; simp
    have noT : ∀ {a : Addr} {i : Int}, (decF a i).lookup ("take" : Str) = none := fun {a i} => decF_no (by decide +kernel) (by decide +kernel)
    have noP : ∀ {a : Addr} {i : Int}, (decF a i).lookup ("take_person" : Str) = none := fun {a i} => decF_no (by decide +kernel) (by decide +kernel)
    -- Decoder(data), []
    refine ⟨_, rfl, fun x dx hx hdx hne => ?_⟩
    refine ⟨x, dx, c, rfl, upd_same, rfl, Nat.zero_le _, fun pl hpl => ?_⟩
    rw [upd_upd] at hpl ⊢
    have hpx : pl ≠ x := fun e => by rw [e, upd_same] at hpl; cases hpl
    have hpd : pl ≠ dx := fun e => by rw [e, upd_ne (fun z => hne z), upd_same] at hpl; cases hpl
    have hpH : H pl = none := by rw [upd_ne hpx, upd_ne hpd] at hpl; exact hpl
    have s0 : Same H (upd (upd (upd H dx (.own x)) x (.ins CD dx (decF c 0))) pl (.lst [])) := (same_mut (same_new hdx) hx).trans (same_new hpl)
    have h0x : upd (upd (upd H dx (.own x)) x (.ins CD dx (decF c 0))) pl (.lst []) x = some (.ins CD dx (decF c 0)) := by rw [upd_ne (Ne.symm hpx)]; exact upd_same
    have h0p : upd (upd (upd H dx (.own x)) x (.ins CD dx (decF c 0))) pl (.lst []) pl = some (.lst []) := upd_same
    generalize upd (upd (upd H dx (.own x)) x (.ins CD dx (decF c 0))) pl (.lst []) = H0 at *
    have hcx : c ≠ x := ne_of_none hc hx
    have hcp : c ≠ pl := ne_of_none hc hpH
    refine ⟨_, _, rfl, ?_⟩
    -- decoder.take(TAG, TAG)
    refine ⟨_, rfl, x, dx, _, rfl, h0x, noT, x, dx, c, 0, codeOf ps, 66, _, _, rfl, h0x, s0 _ _ hc, rfl, Int.le_refl _, Int.le_refl _, ?_⟩
    have s1 : Same H (upd H0 x (.ins CD dx (decF c (((0 : Nat) : Int) + 1)))) := same_mut s0 hx
    have h1x : upd H0 x (.ins CD dx (decF c (((0 : Nat) : Int) + 1))) x = some (.ins CD dx (decF c ((1 : Nat) : Int))) := upd_same
    have h1p : upd H0 x (.ins CD dx (decF c (((0 : Nat) : Int) + 1))) pl = some (.lst []) := by rw [upd_ne hpx]; exact h0p
    generalize upd H0 x (.ins CD dx (decF c (((0 : Nat) : Int) + 1))) = H1 at *
    -- range(decoder.take(2, Line.MAX_PEOPLE))
    refine ⟨_, rfl, x, dx, _, rfl, h1x, noT, C, mc, _, u1, rfl, cr, cv1, x, dx, c, 1, codeOf ps, (ps.length : Int), _, _, rfl, h1x, s1 _ _ hc, rfl, by have := hV.lo; omega, by have := hV.hi; omega, ?_⟩
    have s2 : Same H (upd H1 x (.ins CD dx (decF c (((1 : Nat) : Int) + 1)))) := same_mut s1 hx
    have h2x : upd H1 x (.ins CD dx (decF c (((1 : Nat) : Int) + 1))) x = some (.ins CD dx (decF c ((2 : Nat) : Int))) := upd_same
    have h2p : upd H1 x (.ins CD dx (decF c (((1 : Nat) : Int) + 1))) pl = some (.lst []) := by rw [upd_ne hpx]; exact h1p
    generalize upd H1 x (.ins CD dx (decF c (((1 : Nat) : Int) + 1))) = H2 at *
    refine ⟨_, rfl, by omega, by have := hV.hi; omega, ?_⟩
    rw [Int.toNat_natCast]
    refine for_it (walk_range (lo := 0) (n := ps.length)) (fun i σ H' => ∃ v3 : Option V, σ = [some (.ref c), some (.ref x), some (.ref pl), v3, none, none, none] ∧ H' x = some (.ins CD dx (decF c ((66 :: (ps.length : Int) :: (ps.take i).flatMap persB).length : Nat))) ∧
      Own K (delH H' x) pl (pyPs (ps.take i)) ∧ Same H H') ⟨none, rfl, h2x, Own.nil (by rw [delH_ne hpx]; exact h2p), s2⟩ (fun _ _ _ _ _ => trivial) ?_ ?_
    · rintro i y σ H' H3 hi ⟨v3, rfl, g1, ⟨us, g2, g3⟩, g4⟩ ⟨rfl, rfl⟩
      obtain ⟨p, hp⟩ : ∃ p, ps[i]? = some p := ⟨ps[i], by simp [hi]⟩
      have hpm : p ∈ ps := List.mem_of_getElem? hp
      have g2' : H3 pl = some (.lst us) := same_del _ _ g2
      have ulen : us.length = i := by rw [g3.len]; unfold pyPs; simp; omega
      have hus : DpAll K H3 us (pyPs (ps.take i)) := g3.same (same_del.trans same_del)
      refine ⟨_, rfl, .inl ⟨rfl, _, SqL.of g2'⟩, _, rfl, x, dx, _, rfl, g1, noP, ?_⟩
      -- the names so far
      refine ⟨_, rfl, pl, rfl, ⟨_, SqL.of g2'⟩, fun Dl hDl => ?_⟩
      have hDp : Dl ≠ pl := fun e => by rw [e, g2'] at hDl; cases hDl
      have hDx : Dl ≠ x := fun e => by rw [e, g1] at hDl; cases hDl
      refine lc_it (walk_list (K := K) (a := pl) (xs := us)) (fun j G => G = upd H3 Dl (.lst (((ps.map (·.1)).take j).map V.str))) rfl ?_ ?_ ?_
      · rintro j G _ rfl
        exact SqL.of (by rw [upd_ne (Ne.symm hDp)]; exact g2')
      · rintro j z G G' hj rfl ⟨rfl, hz⟩
        obtain ⟨d, hd1, hd2⟩ := hus.get hz
        obtain ⟨q, hq, rfl⟩ := pyPs_get hd1
        obtain ⟨b, rfl, hb⟩ := dp_person hd2
        have hq' : ps[j]? = some q := by
          rw [List.getElem?_take] at hq
          split at hq
          · exact hq
          · cases hq
        refine ⟨b, _, rfl, (same_new hDl).seqT hb, rfl, _, _, rfl, _, _, rfl, rfl, rfl, _, rfl, _, upd_same, ?_, ?_⟩
        · rw [List.length_map]
          refine szl (Nat.lt_of_le_of_lt (List.length_take_le _ _) ?_)
          have := hV.hi
          omega
        · rw [upd_upd, List.take_add_one, List.getElem?_map, hq']
          simp
      · rintro G rfl
        rw [ulen]
        have e1 : codeOf ps = (66 :: (ps.length : Int) :: (ps.take i).flatMap persB) ++ (persB p ++ ((ps.drop (i + 1)).flatMap persB ++ [sumOf (bytesOf ps)])) := by
          unfold codeOf bytesOf
          rw [flat_split hp]
          simp
        refine ⟨x, dx, c, Dl, codeOf ps, 66 :: (ps.length : Int) :: (ps.take i).flatMap persB, _, p, (ps.map (·.1)).take i, rfl, by rw [upd_ne (Ne.symm hDx)]; exact g1, by rw [upd_ne (ne_of_none (g4 _ _ hc) hDl)]; exact g4 _ _ hc, e1, upd_same, hV.nm p hpm, hV.pc p hpm, ?_, fun H4 t s5 h5x ht h5t => ?_⟩
        · intro hm
          have hnd := hV.nd
          rw [← List.take_append_drop i (ps.map (·.1))] at hnd
          refine List.nodup_append.mp hnd |>.2.2 p.1 hm p.1 ?_ rfl
          have e : (ps.map (·.1))[i]? = some p.1 := by rw [List.getElem?_map, hp]; rfl
          rw [List.drop_eq_getElem_cons (by rw [List.length_map]; exact hi)]
          rw [List.getElem?_eq_getElem (by rw [List.length_map]; exact hi)] at e
          rw [Option.some.inj e]
          exact List.mem_cons_self
        have sD : Same (delH H3 x) H4 := (del_mono (same_new hDl)).trans s5
        have h4p : H4 pl = some (.lst us) := sD _ _ (by rw [delH_ne hpx]; exact g2')
        have ht3 : H3 t = none := (same_new hDl).free ht
        have htp : t ≠ pl := fun e => by rw [e, g2'] at ht3; cases ht3
        have htx : t ≠ x := fun e => by rw [e, g1] at ht3; cases ht3
        have sX : Same (delH H3 x) (delH H4 x) := fun b o e => by
          have nb : b ≠ x := fun z => by rw [z, delH_same] at e; cases e
          rw [delH_ne nb]
          exact sD b o e
        refine ⟨pl, us, _, rfl, rfl, h4p, szl (by have := hV.hi; omega), _, rfl, ?_, ?_, ?_⟩
        · rw [upd_ne (Ne.symm hpx), h5x]
          have e : (66 :: (ps.length : Int) :: (ps.take i).flatMap persB ++ persB p) = 66 :: (ps.length : Int) :: (ps.take (i + 1)).flatMap persB := by
            rw [flat_more hp]
            rfl
          rw [e]
        · rw [del_upd_ne hpx]
          have e : pyPs (ps.take (i + 1)) = pyPs (ps.take i) ++ [pyP p] := by
            unfold pyPs
            rw [List.take_add_one, hp, List.map_append]
            rfl
          rw [e]
          refine Own.push (g3.same (del_mono sX)) ?_
          exact dp_mk_tup (by rw [delH_ne htp, delH_ne htx]; exact h5t) (.cons (.str _) (.cons (.int _) .nil))
        · refine same_mut (fun b o e => sD b o ?_) hpH
          rw [delH_ne (ne_of_none e hx)]
          exact g4 _ _ e
    · rintro σ H' ⟨v3, rfl, g1, ⟨us, g2, g3⟩, g4⟩
      rw [List.take_length] at g1 g3
      have g2' : H' pl = some (.lst us) := same_del _ _ g2
      have eb : (66 :: (ps.length : Int) :: ps.flatMap persB) = bytesOf ps := rfl
      rw [eb] at g1
      have e2 : cutV (ivs (codeOf ps)) none (some (((bytesOf ps).length : Nat) : Int)) = ivs (bytesOf ps) := by
        rw [cut_to (by rw [ivs_len]; omega)]
        unfold codeOf
        rw [ivs_app, ← ivs_len, List.take_left]
      -- expected = checksum(data[:decoder.place])
      refine ⟨_, rfl, _, rfl, x, CD, dx, _, _, rfl, g1, D.cl, D.nP, decF_place, _, rfl, c, _, rfl, SqL.of (g4 _ _ hc), fun z hz => ?_⟩
      rw [e2]
      have hzx : z ≠ x := fun e => by rw [e, g1] at hz; cases hz
      have hzp : z ≠ pl := fun e => by rw [e, g2'] at hz; cases hz
      refine ⟨z, bytesOf ps, rfl, SqL.of upd_same, ?_⟩
      have s5 : Same H' (upd H' z (.lst (ivs (bytesOf ps)))) := same_new hz
      generalize upd H' z (.lst (ivs (bytesOf ps))) = H5 at *
      have hlast : (codeOf ps)[(bytesOf ps).length]? = some (sumOf (bytesOf ps)) := by unfold codeOf; exact get_mid
      refine ⟨_, rfl, x, dx, _, rfl, s5 _ _ g1, noT, _, rfl, _, rfl, x, dx, c, (bytesOf ps).length, codeOf ps, _, _, _, rfl, s5 _ _ g1, s5 _ _ (g4 _ _ hc), hlast, Int.le_refl _, Int.le_refl _, ?_⟩
      refine ⟨_, rfl, x, CD, dx, _, _, rfl, upd_same, D.cl, D.nP, decF_place, _, rfl, c, _, rfl, .inl (SqL.of (by rw [upd_ne hcx]; exact s5 _ _ (g4 _ _ hc))), _, _, rfl, rfl, _, rfl, ?_⟩
      rw [ivs_len, cl, decide_eq_false (by omega)]
      refine iteF ?_
      refine ⟨_, rfl, pl, us, rfl, .inr (SqL.of (by rw [upd_ne hpx]; exact s5 _ _ g2')), mk_line (ps := ps) ?_ hV fun H6 v s6 hl => k H6 v ?_ hl⟩
      · exact g3.same ((same_del.trans (del_mono s5)).trans (del_upd_same same_del))
      · exact (same_mut (g4.trans s5) hx).trans s6
end
end Bk
/-! ### the law -/
namespace Bk
open PySem PySem.Spec PyProof.Rows L2
def spLaw (K : PySem.W.Frag) : Sp := fun vs H Q _ => ∃ (a : Addr) (ns : List Int), vs = [.ref a] ∧ SqL K H a (ns.map V.int) ∧ ns.length ≤ 63 ∧ ∀ H', Q (.bl true) H'
theorem canLay_ints : ∀ l : List Int, PyData.canLayAll0 (l.map PyData.int) = true
  | [] => rfl
  | x :: l => by
    show (PyData.canLay0 (.int x) && PyData.canLayAll0 (l.map PyData.int)) = true
    rw [canLay_ints l]
    rfl
theorem depth_ints : ∀ l : List Int, PyData.depthAll (l.map PyData.int) = 0
  | [] => rfl
  | x :: l => by
    show max (PyData.depth (.int x)) (PyData.depthAll (l.map PyData.int)) = 0
    rw [depth_ints l]
    rfl
theorem shaped_ints (l : List Int) : SeqAt.shaped (.list (l.map PyData.int)) = true := by
  unfold SeqAt.shaped
  have h1 : PyData.canLay0 (.list (l.map PyData.int)) = true := canLay_ints l
  have h2 : PyData.depth (.list (l.map PyData.int)) = 1 := by
    show PyData.depthAll (l.map PyData.int) + 1 = 1
    rw [depth_ints]
  rw [h1, h2]
  rfl
theorem fit_code {ps : List Person} (hV : Valid ps) : Fit 3 (.list [.list ((codeOf ps).map PyData.int), .tuple (pyPs ps)]) := by
  have bl := bytes_len hV
  have cl : (codeOf ps).length = (bytesOf ps).length + 1 := by unfold codeOf; simp
  refine ⟨(by show 2 ≤ 3000; decide), fun x hx => ?_⟩
  rcases List.mem_cons.mp hx with rfl | hx
  · refine ⟨by rw [List.length_map]; omega, fun y hy => ?_⟩
    obtain ⟨i, _, rfl⟩ := List.mem_map.mp hy
    trivial
  · rw [List.mem_singleton.mp hx]
    refine ⟨by unfold pyPs; rw [List.length_map]; have := hV.hi; omega, fun y hy => ?_⟩
    obtain ⟨p, _, rfl⟩ := List.mem_map.mp hy
    refine ⟨(by show 2 ≤ 3000; decide), fun z hz => ?_⟩
    rcases List.mem_cons.mp hz with rfl | hz
    · trivial
    · rw [List.mem_singleton.mp hz]
      trivial
section
variable {P : Program} {w : World} {K : PySem.W.Frag} {mg : Str → Option Value} {base : Heap} {C CD : Addr}
abbrev s_law : Stmt := top 44
theorem sc_law : FnScope ["_law_script", "_law_d", "_law_step", "_law_people_here", "_law_expected", "_law_again", "_law_code"] ["_law_script"] (defScope s_law) := ⟨rfl, rfl, rfl, by decide +kernel, rfl, by decide +kernel, by decide +kernel⟩

theorem ok_law {f : Addr} {fd : FuncData} (F : FnP K "law" "law" s_law f fd) (T : Tx mg) (L : LineT K mg C) (cRand : C8.Cal P w K mg base 1 "_law_random" (spRandom K) []) (cPeople : C8.Cal P w K mg base 3 "_law_people" (spPeople K) []) (cBytes : C8.Cal P w K mg base 1 "_law_bytes" (spBytes K) [])
    (cLawSum : C8.Cal P w K mg base 1 "_law_sum" (spSum K) []) (cEnc : C8.Cal P w K mg base 3 "encode_line" (spEncode K C) []) (cDec : C8.Cal P w K mg base 4 "decode_line" (spDecode K C) []) (cLine : C8.Cal P w K mg base 5 "_law_line" (spLawLine K C) []) (cEq : C8.Cal P w K mg base 4 "_law_equal" (spEq K 3) [])
    (pPeople : PropC P w K mg base 1 C "people" (spCrew C)) : FnOk P w K mg base CX0 6 f fd ["_law_script"] (spLaw K) := by
  refine F.ok sc_law (fun vs H Q E h => ?_) (fun cdv A outer s H vs Q E hr h => ?_)
  · obtain ⟨_, _, rfl, _⟩ := h
    rfl
  · obtain ⟨a, ns, rfl, hS, hlen, k⟩ := h
    refine ⟨_, PSs.nox 
      (pss_cons (ps_set (i := 1) sc_law.nd rfl (.inl rfl) (C8.pe_c cRand hr (by decide) rfl (pa_cons (pv 0) (pa_cons pe_int pa_nil))))
      (pss_cons (ps_for PassesOwn.never rfl (pi_range1 rfl T.f_range (pa_cons pe_int pa_nil)) (pg_name (i := 2) sc_law.nd rfl (Or.inl rfl)) 
        (pss_cons (ps_set (i := 3) sc_law.nd rfl (.inl rfl) (C8.pe_c cPeople hr (by decide) rfl (pa_cons (pv 1) (pa_cons pe_int pa_nil))))
        (pss_cons (ps_set (i := 4) sc_law.nd rfl (.inl rfl) (C8.pe_c cBytes hr (by decide) rfl (pa_cons (pv 3) pa_nil)))
        (pss_cons (ps_expr (e_bm K PySem.F.plainAttrs_list PySem.F.slot_list_append PySem.F.type_list_append mt_append (pv 4) (pa_cons (C8.pe_c cLawSum hr (by decide) rfl (pa_cons (pv 4) pa_nil)) pa_nil)))
        (pss_one (ps_for PassesOwn.never rfl (pi_range1 rfl T.f_range (pa_cons pe_int pa_nil)) (pg_name (i := 5) sc_law.nd rfl (Or.inl rfl)) 
          (pss_cons (ps_set (i := 6) sc_law.nd rfl (.inl rfl) (C8.pe_c cEnc hr (by decide) rfl (pa_cons (C8.pe_c cLine hr (by decide) rfl (pa_cons (pv 3) pa_nil)) pa_nil)))
          (pss_cons (ps_if (PW.pt (pw_or (pt_not (pt_val (C8.pe_c cEq hr (by decide) rfl (pa_cons (pe_lst (pa_cons (pv 6) (pa_cons (e_prop pPeople L.cl hr (by decide) (C8.pe_c cDec hr (by decide) rfl (pa_cons (pv 6) pa_nil))) pa_nil))) (pa_cons (pe_lst (pa_cons (pv 4) (pa_cons (pe_callTy (c_tuple K) (by rfl) T.f_tuple (by decide +kernel) (pa_cons (pv 3) pa_nil)) pa_nil))) pa_nil))))) (pw_or1 (pt_cmpR (o_neD K hr.units) (pv 6) (pv 4) (nomark _))))) 
            (pss_one (ps_ret pe_bl)) pss_nil)
          (pss_one (ps_expr (e_bm K PySem.F.plainAttrs_list PySem.F.slot_list_append PySem.F.type_list_append mt_append (pv 6) (pa_cons pe_int pa_nil))))))))))))
      (pss_one (ps_ret pe_bl)))), ?_⟩
    refine ⟨_, rfl, a, ns, 40, rfl, hS, hlen, by decide, fun H1 d l s1 hd src hl h1d => ?_⟩
    refine ⟨4, rfl, by decide, by decide, for_it (walk_range (lo := 0) (n := 4)) (fun i σ H' => ∃ (l' : List Int) (v2 v3 v4 v5 v6 : Option V), σ = [some (.ref a), some (.ref d), v2, v3, v4, v5, v6] ∧ H' d = some (.lst (ivs l')) ∧ Src l')
      ⟨l, none, none, none, none, none, rfl, h1d, src⟩ (fun _ _ _ _ _ => trivial) ?_ ?_⟩
    · rintro i x σ H' H1' hi ⟨l', v2, v3, v4, v5, v6, rfl, h1, h2⟩ ⟨rfl, rfl⟩
      refine ⟨_, rfl, d, l', 12, rfl, h1, h2, by decide, by decide, fun H2 pl l2 ps hV hlen hstd src2 s2 h2d hpl ow => ?_⟩
      have dpl : Dp K H2 (.ref pl) (.list (pyPs ps)) := ow.dp.same same_del
      refine ⟨_, rfl, .ref pl, ps, rfl, dpl, hV, fun H3 ex s3 hex h3ex => ?_⟩
      have bl := bytes_len hV
      refine ⟨_, rfl, .inl ⟨rfl, _, SqL.of h3ex⟩, _, rfl, ex, bytesOf ps, rfl, SqL.of h3ex, ex, _, _, rfl, rfl, h3ex, ?_, ?_⟩
      · rw [ivs_len]
        exact szl (by omega)
      have e4 : ivs (bytesOf ps) ++ [.int (sumOf (bytesOf ps))] = ivs (codeOf ps) := by
        unfold codeOf
        rw [ivs_app]
        rfl
      rw [e4]
      have s4 : Same H2 (upd H3 ex (.lst (ivs (codeOf ps)))) := same_mut s3 hex
      have h4ex : upd H3 ex (.lst (ivs (codeOf ps))) ex = some (.lst (ivs (codeOf ps))) := upd_same
      generalize upd H3 ex (.lst (ivs (codeOf ps))) = H4 at *
      refine ⟨2, rfl, by decide, by decide, for_it (walk_range (lo := 0) (n := 2)) (fun j σ H' => ∃ (v2 v5 v6 : Option V), σ = [some (.ref a), some (.ref d), v2, some (.ref pl), some (.ref ex), v5, v6] ∧ Same H4 H')
        ⟨_, _, _, rfl, Same.refl _⟩ (fun _ _ _ _ _ => trivial) ?_ ?_⟩
      · rintro j x σ H5 H5' hj ⟨v2, v5, v6, rfl, s5⟩ ⟨rfl, rfl⟩
        refine ⟨_, rfl, .ref pl, ps, rfl, dpl.same (s4.trans s5), hV, fun H6 v s6 hL => ⟨v, ps, rfl, hL, hV, fun H7 c s7 hc h7c => ?_⟩⟩
        have hc5 : H5' c = none := s6.free hc
        have s57 := s6.trans s7
        refine ⟨_, rfl, _, rfl, c, ps, rfl, h7c, hV, fun H8 v8 s8 hL8 => ?_⟩
        obtain ⟨a8, dx8, p8, xs8, rfl, ha8, hp8, hd8⟩ := hL8
        refine ⟨a8, dx8, _, rfl, ha8, a8, dx8, p8, rfl, ha8, (by show 2 ≤ sizeLine; decide), fun l1 hl1 => ?_⟩
        have s9 : Same H8 (upd H8 l1 (.lst [.ref c, .ref p8])) := same_new hl1
        have h9 : upd H8 l1 (.lst [.ref c, .ref p8]) l1 = some (.lst [.ref c, .ref p8]) := upd_same
        generalize upd H8 l1 (.lst [.ref c, .ref p8]) = H9 at *
        have s59 : Same H5' H9 := s57.trans (s8.trans s9)
        have dpl9 := dpl.same (s4.trans (s5.trans s59))
        obtain ⟨pl', us, e, hus, dus⟩ := dp_lst dpl9
        cases e
        refine ⟨_, rfl, _, rfl, pl, us, rfl, .inl ⟨hus, fun tp htp => ?_⟩⟩
        have s10 : Same H9 (upd H9 tp (.tup us)) := same_new htp
        have h10 : upd H9 tp (.tup us) tp = some (.tup us) := upd_same
        generalize upd H9 tp (.tup us) = H10 at *
        refine ⟨(by show 2 ≤ sizeLine; decide), fun l3 hl3 => ?_⟩
        have s11 : Same H10 (upd H10 l3 (.lst [.ref ex, .ref tp])) := same_new hl3
        have h11 : upd H10 l3 (.lst [.ref ex, .ref tp]) l3 = some (.lst [.ref ex, .ref tp]) := upd_same
        generalize upd H10 l3 (.lst [.ref ex, .ref tp]) = H11 at *
        have s911 := s10.trans s11
        have dc : Dp K H11 (.ref c) (.list ((codeOf ps).map PyData.int)) := dp_mk_lst (s911 _ _ (s9 _ _ (s8 _ _ h7c))) (dps_ints _)
        have de : Dp K H11 (.ref ex) (.list ((codeOf ps).map PyData.int)) := dp_mk_lst (s911 _ _ (s59 _ _ (s5 _ _ h4ex))) (dps_ints _)
        refine ⟨.ref l1, .ref l3, .list [.list ((codeOf ps).map PyData.int), .tuple (pyPs ps)], rfl, ?_, ?_, fit_code hV, fun H12 s12 => ?_⟩
        · exact dp_mk_lst (s911 _ _ h9) (.cons dc (.cons (dp_mk_tup (s911 _ _ (s9 _ _ hp8)) (hd8.same (s9.trans s911))) .nil))
        · exact dp_mk_lst h11 (.cons de (.cons (dp_mk_tup (s11 _ _ h10) (dus.same s911)) .nil))
        refine ⟨_, rfl, iteF ?_⟩
        refine ⟨_, rfl, _, rfl, _, _, dc.same s12, de.same s12, shaped_ints _, shaped_ints _, _, rfl, ?_⟩
        rw [SeqAt.eqv_refl _ (show PyData.canLay0 (.list ((codeOf ps).map PyData.int)) = true from canLay_ints _)]
        refine iteF ?_
        have s512 : Same H5' H12 := (s59.trans s911).trans s12
        have h12c : H12 c = some (.lst (ivs (codeOf ps))) := s12 _ _ (s911 _ _ (s9 _ _ (s8 _ _ h7c)))
        refine ⟨_, rfl, .inl ⟨rfl, _, SqL.of h12c⟩, c, _, _, rfl, rfl, h12c, ?_, _, _, _, rfl, ?_⟩
        · rw [ivs_len]
          have cl : (codeOf ps).length = (bytesOf ps).length + 1 := by unfold codeOf; simp
          exact szl (by omega)
        · exact same_mut (s5.trans s512) (s5.free hc5)
      · rintro σ H5 ⟨v2, v5, v6, rfl, s5⟩
        exact ⟨l2, _, _, _, _, _, rfl, s5 _ _ (s4 _ _ h2d), src2⟩
    · rintro σ H' ⟨l', v2, v3, v4, v5, v6, rfl, h1, h2⟩
      exact k _
end
end Bk
/-! ### the head: what the top has left, by names -/
namespace Bk
open PySem PySem.Spec PyProof.Rows L2
structure MDef where
  adr : PySem.W.Frag → Addr
  name : Str
  qual : Str
  st : Stmt
def fnAt (K : PySem.W.Frag) (a : Addr) : He.FnW := match K.lookup a with
  | some ⟨_, _, .func fd, _⟩ => some (fd.name, fd.qualname, fd.params, fd.body, fd.scope, fd.globals, fd.closure, fd.builtins)
  | _ => none
def MDef.val (d : MDef) : He.FnW := some (d.name, d.qual, defArgs d.st, .stmts (defBody d.st), defScope d.st, mainGlobals, [], builtinsNs)
def MDef.ok (K : PySem.W.Frag) (d : MDef) : Bool := PySem.W.keepIn K (.ref (d.adr K)) && (match K.lookup (d.adr K) with
  | some ⟨_, _, .func fd, _⟩ => PySem.W.codeIn K fd.code d.qual && He.dflB K fd.defaults []
  | _ => false)
theorem MDef.fnP {K : PySem.W.Frag} {d : MDef} (e : fnAt K (d.adr K) = d.val) (c : d.ok K = true) : ∃ fd, FnP K d.name d.qual d.st (d.adr K) fd := by
  obtain ⟨kp, c2⟩ := He.ba c
  unfold fnAt at e
  cases q : K.lookup (d.adr K) with
  | none =>
    rw [q] at c2
    cases c2
  | some o =>
    obtain ⟨oc, od, dt, osl⟩ := o
    rw [q] at c2 e
    cases dt with
    | func fd =>
      obtain ⟨w1, w2, w3, w4, w5, w6, w7, w8, w9, w10, w11, w12, w13, w14, w15⟩ := fd
      have e2 : (some (w1, w2, w3, w4, w5, w6, w7, w15) : He.FnW) = some (d.name, d.qual, defArgs d.st, .stmts (defBody d.st), defScope d.st, mainGlobals, [], builtinsNs) := e
      simp only [Prod.mk.injEq, Option.some.injEq] at e2
      obtain ⟨q1, q2, q3, q4, q5, q6, q7, q8⟩ := e2
      subst q1 q2 q3 q4 q5 q6 q7 q8
      have c3 : (PySem.W.codeIn K w13 d.qual && He.dflB K w8 []) = true := c2
      obtain ⟨k1, k2⟩ := He.ba c3
      exact ⟨_, ⟨oc, od, w8, w9, w10, w11, w12, w13, w14, osl, rfl, q, k1, He.dflB_ok k2, He.kwdB_ok rfl⟩, kp⟩
    | _ => cases c2
def asM (g : Addr → Option Obj) : Nat → List Addr
  | 0 => [mainGlobals, cStatics]
  | n + 1 => He.growD g (asM g n)
abbrev AlM : Type := Bool × List He.FnW
def obsM (fs : List (PySem.W.Frag → Bool)) (fn : List MDef) (K : PySem.W.Frag) : AlM := ((fs.all fun f => f K) && fn.all fun d => d.ok K, fn.map fun d => fnAt K (d.adr K))
def valM (fn : List MDef) : AlM := (true, fn.map MDef.val)
def SaysM (fs : List (PySem.W.Frag → Bool)) (fn : List MDef) (K : PySem.W.Frag) : Prop := obsM fs fn K = valM fn
def obsMG (n : Nat) (fs : List (PySem.W.Frag → Bool)) (fn : List MDef) (g : Addr → Option Obj) : AlM := obsM fs fn (He.frG g (asM g n))
def hookM (n : Nat) (fs : List (PySem.W.Frag → Bool)) (fn : List MDef) : PySem.W.Hook where
  α := AlM
  obs := fun s => obsMG n fs fn s.heap.get?
  val := fun _ => valM fn
  says := fun _ h => ∃ K : PySem.W.Frag, K.In h ∧ SaysM fs fn K
  of := fun _ _ e => ⟨_, He.frG_in, e⟩
  keeps := fun _ _ _ ⟨K, hK, c⟩ k => ⟨K, PySem.W.Frag.In.keeps hK k, c⟩
theorem obsMG_eq {n : Nat} {fs : List (PySem.W.Frag → Bool)} {fn : List MDef} {g : Addr → Option Obj} {s : Shared} (h : ∀ a, g a = s.heap.get? a) : obsMG n fs fn g = (hookM n fs fn).obs s := by
  have e : g = s.heap.get? := funext h
  rw [e] <;> rfl
section
variable {fs : List (PySem.W.Frag → Bool)} {fn : List MDef} {K : PySem.W.Frag}
theorem SaysM.fact (c : SaysM fs fn K) (i : Nat) {f : PySem.W.Frag → Bool} (h : fs[i]? = some f := by rfl) : f K = true := by
  have c1 := (He.ba (show ((fs.all fun f => f K) && fn.all fun d => d.ok K) = true from congrArg (fun z : AlM => z.1) c)).1
  exact List.all_eq_true.mp c1 f (List.mem_of_getElem? h)
theorem SaysM.def_ (c : SaysM fs fn K) (i : Nat) {d : MDef} (h : fn[i]? = some d := by rfl) : ∃ fd, FnP K d.name d.qual d.st (d.adr K) fd := by
  have c2 := (He.ba (show ((fs.all fun f => f K) && fn.all fun d => d.ok K) = true from congrArg (fun z : AlM => z.1) c)).2
  have e : fn.map (fun d => fnAt K (d.adr K)) = fn.map MDef.val := congrArg (fun z : AlM => z.2) c
  have e2 : (fn.map fun d => fnAt K (d.adr K))[i]? = (fn.map MDef.val)[i]? := by rw [e]
  rw [List.getElem?_map, List.getElem?_map, h] at e2
  exact MDef.fnP (Option.some.inj e2) (List.all_eq_true.mp c2 d (List.mem_of_getElem? h))
end
/-! facts of classes -/
def propA (K : PySem.W.Frag) (C : Addr) (f : Str) : Addr := match PySem.W.recIn K (He.ma K C f) "property" with
  | some (.ref g :: _) => g
  | _ => 0
def creadB (K : PySem.W.Frag) (C : Addr) : Bool := PySem.W.readsIn K C (.type "type") && He.eqO (PySem.W.specialIn K (.ref C) "__getattribute__") (some (some (.builtin "type.__getattribute__")))
theorem creadB_ok {K : PySem.W.Frag} {C : Addr} (h : creadB K C = true) : ClX.CRead K C (.type "type") := by
  obtain ⟨h1, h2⟩ := He.ba h
  exact ⟨h1, He.eqO_ok h2⟩
def cvalB (K : PySem.W.Frag) (C : Addr) (f : Str) (v : V) : Bool := match PySem.W.findCls K (.ref C) (.type "type") f with
  | some (.val u) => He.relB v u
  | _ => false
theorem cvalB_ok {K : PySem.W.Frag} {C : Addr} {f : Str} {v : V} (h : cvalB K C f v = true) : ∃ u, ClX.CVal K C (.type "type") f v u := by
  unfold cvalB at h
  split at h
  · rename_i u e
    exact ⟨u, e, He.relB_ok h⟩
  · cases h
def propB (K : PySem.W.Frag) (C : Addr) (f : Str) : Bool := He.eqO (PySem.W.findIn K (.ref C) f) (some (some (.ref (He.ma K C f)))) && (He.eqO (PySem.W.specialIn K (.ref (He.ma K C f)) "__get__") (some (some (.builtin "property.__get__"))) &&
  (decide (PySem.W.takesIn K (.ref (He.ma K C f)) = some true) && (match PySem.W.recIn K (He.ma K C f) "property" with
  | some (.ref _ :: _) => true
  | _ => false)))
theorem propB_ok {K : PySem.W.Frag} {C : Addr} {f : Str} (h : propB K C f = true) : PropOf K C f (He.ma K C f) (propA K C f) := by
  obtain ⟨h1, h⟩ := He.ba h
  obtain ⟨h2, h⟩ := He.ba h
  obtain ⟨h3, h4⟩ := He.ba h
  refine ⟨He.eqO_ok h1, He.eqO_ok h2, of_decide_eq_true h3, ?_⟩
  unfold propA
  split at h4
  · rename_i g rest e
    rw [e]
    exact ⟨rest, rfl⟩
  · cases h4
theorem relB_glo {K : PySem.W.Frag} {h : Heap} {mg : Str → Option Value} (X : K.In h) (G : h.Ns mainGlobals mg) {x : Str} {i : Int} (c : (He.Fa.int x i).ok K = true) : ∃ u, mg x = some u ∧ RelV (.int i) u := by
  obtain ⟨t, e⟩ := He.int_ok X G c
  exact ⟨_, e, t, rfl⟩
theorem relB_gls {K : PySem.W.Frag} {h : Heap} {mg : Str → Option Value} (X : K.In h) (G : h.Ns mainGlobals mg) {x z : Str} (c : (He.Fa.str x z).ok K = true) : ∃ u, mg x = some u ∧ RelV (.str z) u := by
  obtain ⟨t, e⟩ := He.str_ok X G c
  exact ⟨_, e, t, rfl⟩
end Bk
/-! ### the end -/
namespace Bk
open PySem PySem.Spec PyProof.Rows L2
def md_is_name : MDef := ⟨fun K => He.ga K "is_name", "is_name", "is_name", s_is_name⟩
def md_Line___init__ : MDef := ⟨fun K => He.ma K (He.ga K "Line") "__init__", "__init__", "Line.__init__", s_Line___init__⟩
def md_Line_people : MDef := ⟨fun K => propA K (He.ga K "Line") "people", "people", "Line.people", s_Line_people⟩
def md_Line___len__ : MDef := ⟨fun K => He.ma K (He.ga K "Line") "__len__", "__len__", "Line.__len__", s_Line___len__⟩
def md_is_number : MDef := ⟨fun K => He.ga K "is_number", "is_number", "is_number", s_is_number⟩
def md_parse_line : MDef := ⟨fun K => He.ga K "parse_line", "parse_line", "parse_line", s_parse_line⟩
def md_checksum : MDef := ⟨fun K => He.ga K "checksum", "checksum", "checksum", s_checksum⟩
def md_encode_line : MDef := ⟨fun K => He.ga K "encode_line", "encode_line", "encode_line", s_encode_line⟩
def md_Decoder___init__ : MDef := ⟨fun K => He.ma K (He.ga K "Decoder") "__init__", "__init__", "Decoder.__init__", s_Decoder___init__⟩
def md_Decoder_take : MDef := ⟨fun K => He.ma K (He.ga K "Decoder") "take", "take", "Decoder.take", s_Decoder_take⟩
def md_Decoder_take_person : MDef := ⟨fun K => He.ma K (He.ga K "Decoder") "take_person", "take_person", "Decoder.take_person", s_Decoder_take_person⟩
def md_decode_line : MDef := ⟨fun K => He.ga K "decode_line", "decode_line", "decode_line", s_decode_line⟩
def md__law_random : MDef := ⟨fun K => He.ga K "_law_random", "_law_random", "_law_random", s__law_random⟩
def md__law_below : MDef := ⟨fun K => He.ga K "_law_below", "_law_below", "_law_below", s__law_below⟩
def md__law_shuffled : MDef := ⟨fun K => He.ga K "_law_shuffled", "_law_shuffled", "_law_shuffled", s__law_shuffled⟩
def md__law_people : MDef := ⟨fun K => He.ga K "_law_people", "_law_people", "_law_people", s__law_people⟩
def md__law_bytes : MDef := ⟨fun K => He.ga K "_law_bytes", "_law_bytes", "_law_bytes", s__law_bytes⟩
def md__law_sum : MDef := ⟨fun K => He.ga K "_law_sum", "_law_sum", "_law_sum", s__law_sum⟩
def md__law_words : MDef := ⟨fun K => He.ga K "_law_words", "_law_words", "_law_words", s__law_words⟩
def md__law_line : MDef := ⟨fun K => He.ga K "_law_line", "_law_line", "_law_line", s__law_line⟩
def md__law_equal : MDef := ⟨fun K => He.ga K "_law_equal", "_law_equal", "_law_equal", s__law_equal⟩
def md_law : MDef := ⟨fun K => He.ga K "law", "law", "law", s_law⟩
def mdefs : List MDef := [md_is_name, md_Line___init__, md_Line_people, md_Line___len__, md_is_number, md_parse_line, md_checksum, md_encode_line, md_Decoder___init__, md_Decoder_take, md_Decoder_take_person, md_decode_line, md__law_random, md__law_below, md__law_shuffled, md__law_people, md__law_bytes, md__law_sum, md__law_words, md__law_line, md__law_equal, md_law]
def mfacts : List (PySem.W.Frag → Bool) := [fun K => (He.Fa.free "TypeError").ok K,
  fun K => (He.Fa.free "ValueError").ok K,
  fun K => (He.Fa.free "abs").ok K,
  fun K => (He.Fa.free "all").ok K,
  fun K => (He.Fa.free "any").ok K,
  fun K => (He.Fa.free "bool").ok K,
  fun K => (He.Fa.free "classmethod").ok K,
  fun K => (He.Fa.free "enumerate").ok K,
  fun K => (He.Fa.free "int").ok K,
  fun K => (He.Fa.free "isinstance").ok K,
  fun K => (He.Fa.free "len").ok K,
  fun K => (He.Fa.free "list").ok K,
  fun K => (He.Fa.free "max").ok K,
  fun K => (He.Fa.free "min").ok K,
  fun K => (He.Fa.free "property").ok K,
  fun K => (He.Fa.free "range").ok K,
  fun K => (He.Fa.free "str").ok K,
  fun K => (He.Fa.free "tuple").ok K,
  fun K => (He.Fa.free "zip").ok K,
  fun K => (He.Fa.str "LETTERS" "abcdefghijklmnopqrstuvwxyz").ok K,
  fun K => (He.Fa.int "MAX_LETTERS" 8).ok K,
  fun K => (He.Fa.int "MAX_BUCKET" 1000000000000000000).ok K,
  fun K => (He.Fa.int "TAG" 66).ok K,
  fun K => (He.Fa.int "BYTE" 256).ok K,
  fun K => (He.Fa.int "MODULUS" 241).ok K,
  fun K => (He.Fa.str "DIGITS" "0123456789").ok K,
  fun K => (He.Fa.int "MAX_DIGITS" 4).ok K,
  fun K => (He.Fa.glo "is_name").ok K,
  fun K => (He.Fa.glo "is_number").ok K,
  fun K => (He.Fa.glo "parse_line").ok K,
  fun K => (He.Fa.glo "checksum").ok K,
  fun K => (He.Fa.glo "encode_line").ok K,
  fun K => (He.Fa.glo "decode_line").ok K,
  fun K => (He.Fa.glo "_law_random").ok K,
  fun K => (He.Fa.glo "_law_below").ok K,
  fun K => (He.Fa.glo "_law_shuffled").ok K,
  fun K => (He.Fa.glo "_law_people").ok K,
  fun K => (He.Fa.glo "_law_bytes").ok K,
  fun K => (He.Fa.glo "_law_sum").ok K,
  fun K => (He.Fa.glo "_law_words").ok K,
  fun K => (He.Fa.glo "_law_line").ok K,
  fun K => (He.Fa.glo "_law_equal").ok K,
  fun K => (He.Fa.glo "law").ok K,
  fun K => (He.Fa.cls "Line").ok K,
  fun K => (He.Fa.noat "Line" "crew").ok K,
  fun K => (He.Fa.glo "Line").ok K,
  fun K => (He.Fa.mkr "Line").ok K,
  fun K => creadB K (He.ga K "Line"),
  fun K => cvalB K (He.ga K "Line") "MAX_PEOPLE" (.int 12),
  fun K => cvalB K (He.ga K "Line") "MAX_PACE" (.int 1000),
  fun K => propB K (He.ga K "Line") "people",
  fun K => (He.Fa.meth "Line" "__len__").ok K,
  fun K => (He.Fa.cls "Decoder").ok K,
  fun K => (He.Fa.noat "Decoder" "data").ok K,
  fun K => (He.Fa.noat "Decoder" "place").ok K,
  fun K => (He.Fa.glo "Decoder").ok K,
  fun K => (He.Fa.mkr "Decoder").ok K,
  fun K => (He.Fa.meth "Decoder" "take").ok K,
  fun K => (He.Fa.meth "Decoder" "take_person").ok K]
theorem all40 {P : Program} {w : World} {K : PySem.W.Frag} {h : Heap} {mg : Str → Option Value} {f : Addr} (X : K.In h) (G : h.Ns mainGlobals mg) (hfa : mg ("law" : Str) = some (.ref f)) (c : SaysM mfacts mdefs K) :
    ∃ fd : FuncData, (∀ (s : Shared) (v : Value), BindsTo s fd ⟨[v], []⟩ [("_law_script", v)]) ∧ ∀ base : Heap, K.In base → base.Ns mainGlobals mg → FnOk P w K mg base CX0 6 f fd ["_law_script"] (spLaw K) := by
  obtain ⟨fd_is_name, F_is_name⟩ := c.def_ 0 (d := md_is_name) rfl
  have b_is_name : Binds K fd_is_name ["name"] [] := F_is_name.bindsN fun _ _ _ _ _ _ us hl => match us, hl with | [_], _ => rfl
  have g_is_name : mg "is_name" = some (.ref (He.ga K "is_name")) := He.glo_ok X G (c.fact 27 rfl)
  obtain ⟨fd_Line___init__, F_Line___init__⟩ := c.def_ 1 (d := md_Line___init__) rfl
  obtain ⟨fd_Line_people, F_Line_people⟩ := c.def_ 2 (d := md_Line_people) rfl
  have b_Line_people : Binds K fd_Line_people ["self"] [] := F_Line_people.bindsN fun _ _ _ _ _ _ us hl => match us, hl with | [_], _ => rfl
  obtain ⟨fd_Line___len__, F_Line___len__⟩ := c.def_ 3 (d := md_Line___len__) rfl
  have b_Line___len__ : Binds K fd_Line___len__ ["self"] [] := F_Line___len__.bindsN fun _ _ _ _ _ _ us hl => match us, hl with | [_], _ => rfl
  obtain ⟨fd_is_number, F_is_number⟩ := c.def_ 4 (d := md_is_number) rfl
  have b_is_number : Binds K fd_is_number ["word", "longest"] [] := F_is_number.bindsN fun _ _ _ _ _ _ us hl => match us, hl with | [_, _], _ => rfl
  have g_is_number : mg "is_number" = some (.ref (He.ga K "is_number")) := He.glo_ok X G (c.fact 28 rfl)
  obtain ⟨fd_parse_line, F_parse_line⟩ := c.def_ 5 (d := md_parse_line) rfl
  have b_parse_line : Binds K fd_parse_line ["text"] [] := F_parse_line.bindsN fun _ _ _ _ _ _ us hl => match us, hl with | [_], _ => rfl
  have g_parse_line : mg "parse_line" = some (.ref (He.ga K "parse_line")) := He.glo_ok X G (c.fact 29 rfl)
  obtain ⟨fd_checksum, F_checksum⟩ := c.def_ 6 (d := md_checksum) rfl
  have b_checksum : Binds K fd_checksum ["values"] [] := F_checksum.bindsN fun _ _ _ _ _ _ us hl => match us, hl with | [_], _ => rfl
  have g_checksum : mg "checksum" = some (.ref (He.ga K "checksum")) := He.glo_ok X G (c.fact 30 rfl)
  obtain ⟨fd_encode_line, F_encode_line⟩ := c.def_ 7 (d := md_encode_line) rfl
  have b_encode_line : Binds K fd_encode_line ["line"] [] := F_encode_line.bindsN fun _ _ _ _ _ _ us hl => match us, hl with | [_], _ => rfl
  have g_encode_line : mg "encode_line" = some (.ref (He.ga K "encode_line")) := He.glo_ok X G (c.fact 31 rfl)
  obtain ⟨fd_Decoder___init__, F_Decoder___init__⟩ := c.def_ 8 (d := md_Decoder___init__) rfl
  have b_Decoder___init__ : Binds K fd_Decoder___init__ ["self", "data"] [] := F_Decoder___init__.bindsN fun _ _ _ _ _ _ us hl => match us, hl with | [_, _], _ => rfl
  obtain ⟨fd_Decoder_take, F_Decoder_take⟩ := c.def_ 9 (d := md_Decoder_take) rfl
  have b_Decoder_take : Binds K fd_Decoder_take ["self", "low", "high"] [] := F_Decoder_take.bindsN fun _ _ _ _ _ _ us hl => match us, hl with | [_, _, _], _ => rfl
  obtain ⟨fd_Decoder_take_person, F_Decoder_take_person⟩ := c.def_ 10 (d := md_Decoder_take_person) rfl
  have b_Decoder_take_person : Binds K fd_Decoder_take_person ["self", "names"] [] := F_Decoder_take_person.bindsN fun _ _ _ _ _ _ us hl => match us, hl with | [_, _], _ => rfl
  obtain ⟨fd_decode_line, F_decode_line⟩ := c.def_ 11 (d := md_decode_line) rfl
  have b_decode_line : Binds K fd_decode_line ["data"] [] := F_decode_line.bindsN fun _ _ _ _ _ _ us hl => match us, hl with | [_], _ => rfl
  have g_decode_line : mg "decode_line" = some (.ref (He.ga K "decode_line")) := He.glo_ok X G (c.fact 32 rfl)
  obtain ⟨fd__law_random, F__law_random⟩ := c.def_ 12 (d := md__law_random) rfl
  have b__law_random : Binds K fd__law_random ["_law_script", "_law_salt"] [] := F__law_random.bindsN fun _ _ _ _ _ _ us hl => match us, hl with | [_, _], _ => rfl
  have g__law_random : mg "_law_random" = some (.ref (He.ga K "_law_random")) := He.glo_ok X G (c.fact 33 rfl)
  obtain ⟨fd__law_below, F__law_below⟩ := c.def_ 13 (d := md__law_below) rfl
  have b__law_below : Binds K fd__law_below ["_law_d", "_law_limit"] [] := F__law_below.bindsN fun _ _ _ _ _ _ us hl => match us, hl with | [_, _], _ => rfl
  have g__law_below : mg "_law_below" = some (.ref (He.ga K "_law_below")) := He.glo_ok X G (c.fact 34 rfl)
  obtain ⟨fd__law_shuffled, F__law_shuffled⟩ := c.def_ 14 (d := md__law_shuffled) rfl
  have b__law_shuffled : Binds K fd__law_shuffled ["_law_d", "_law_items"] [] := F__law_shuffled.bindsN fun _ _ _ _ _ _ us hl => match us, hl with | [_, _], _ => rfl
  have g__law_shuffled : mg "_law_shuffled" = some (.ref (He.ga K "_law_shuffled")) := He.glo_ok X G (c.fact 35 rfl)
  obtain ⟨fd__law_people, F__law_people⟩ := c.def_ 15 (d := md__law_people) rfl
  have b__law_people : Binds K fd__law_people ["_law_d", "_law_most"] [] := F__law_people.bindsN fun _ _ _ _ _ _ us hl => match us, hl with | [_, _], _ => rfl
  have g__law_people : mg "_law_people" = some (.ref (He.ga K "_law_people")) := He.glo_ok X G (c.fact 36 rfl)
  obtain ⟨fd__law_bytes, F__law_bytes⟩ := c.def_ 16 (d := md__law_bytes) rfl
  have b__law_bytes : Binds K fd__law_bytes ["_law_people_here"] [] := F__law_bytes.bindsN fun _ _ _ _ _ _ us hl => match us, hl with | [_], _ => rfl
  have g__law_bytes : mg "_law_bytes" = some (.ref (He.ga K "_law_bytes")) := He.glo_ok X G (c.fact 37 rfl)
  obtain ⟨fd__law_sum, F__law_sum⟩ := c.def_ 17 (d := md__law_sum) rfl
  have b__law_sum : Binds K fd__law_sum ["_law_code"] [] := F__law_sum.bindsN fun _ _ _ _ _ _ us hl => match us, hl with | [_], _ => rfl
  have g__law_sum : mg "_law_sum" = some (.ref (He.ga K "_law_sum")) := He.glo_ok X G (c.fact 38 rfl)
  obtain ⟨fd__law_words, F__law_words⟩ := c.def_ 18 (d := md__law_words) rfl
  have b__law_words : Binds K fd__law_words ["_law_people_here"] [] := F__law_words.bindsN fun _ _ _ _ _ _ us hl => match us, hl with | [_], _ => rfl
  have g__law_words : mg "_law_words" = some (.ref (He.ga K "_law_words")) := He.glo_ok X G (c.fact 39 rfl)
  obtain ⟨fd__law_line, F__law_line⟩ := c.def_ 19 (d := md__law_line) rfl
  have b__law_line : Binds K fd__law_line ["_law_people_here"] [] := F__law_line.bindsN fun _ _ _ _ _ _ us hl => match us, hl with | [_], _ => rfl
  have g__law_line : mg "_law_line" = some (.ref (He.ga K "_law_line")) := He.glo_ok X G (c.fact 40 rfl)
  obtain ⟨fd__law_equal, F__law_equal⟩ := c.def_ 20 (d := md__law_equal) rfl
  have b__law_equal : Binds K fd__law_equal ["_law_actual", "_law_expected"] [] := F__law_equal.bindsN fun _ _ _ _ _ _ us hl => match us, hl with | [_, _], _ => rfl
  have g__law_equal : mg "_law_equal" = some (.ref (He.ga K "_law_equal")) := He.glo_ok X G (c.fact 41 rfl)
  obtain ⟨fd_law, F_law⟩ := c.def_ 21 (d := md_law) rfl
  have b_law : Binds K fd_law ["_law_script"] [] := F_law.bindsN fun _ _ _ _ _ _ us hl => match us, hl with | [_], _ => rfl
  have g_law : mg "law" = some (.ref (He.ga K "law")) := He.glo_ok X G (c.fact 42 rfl)
  have T : Tx mg := ⟨He.free_ok X G (c.fact 0 rfl), He.free_ok X G (c.fact 1 rfl), He.free_ok X G (c.fact 2 rfl), He.free_ok X G (c.fact 3 rfl), He.free_ok X G (c.fact 4 rfl), He.free_ok X G (c.fact 5 rfl), He.free_ok X G (c.fact 6 rfl), He.free_ok X G (c.fact 7 rfl), He.free_ok X G (c.fact 8 rfl), He.free_ok X G (c.fact 9 rfl), He.free_ok X G (c.fact 10 rfl), He.free_ok X G (c.fact 11 rfl), He.free_ok X G (c.fact 12 rfl), He.free_ok X G (c.fact 13 rfl), He.free_ok X G (c.fact 14 rfl), He.free_ok X G (c.fact 15 rfl), He.free_ok X G (c.fact 16 rfl), He.free_ok X G (c.fact 17 rfl), He.free_ok X G (c.fact 18 rfl), relB_gls X G (c.fact 19 rfl), relB_glo X G (c.fact 20 rfl), relB_glo X G (c.fact 21 rfl), relB_glo X G (c.fact 22 rfl), relB_glo X G (c.fact 23 rfl), relB_glo X G (c.fact 24 rfl), relB_gls X G (c.fact 25 rfl), relB_glo X G (c.fact 26 rfl)⟩
  have gL : mg "Line" = some (.ref (He.ga K "Line")) := He.glo_ok X G (c.fact 45 rfl)
  have L : LineT K mg (He.ga K "Line") := ⟨⟨_, gL, rfl⟩, He.cls_ok (c.fact 43 rfl), He.noat_ok (c.fact 44 rfl), .type "type", creadB_ok (c.fact 47 rfl), cvalB_ok (c.fact 48 rfl), cvalB_ok (c.fact 49 rfl)⟩
  have D : DecT K (He.ga K "Decoder") := ⟨He.cls_ok (c.fact 52 rfl), He.noat_ok (c.fact 53 rfl), He.noat_ok (c.fact 54 rfl)⟩
  have e := hfa.symm.trans g_law
  cases e
  refine ⟨fd_law, fun s v => FunD.bindsA (ps := ["_law_script"]) F_law (fun _ _ _ _ _ _ us hl => match us, hl with | [_], _ => rfl) s [v] rfl, fun base _ _ => ?_⟩
  have cName : C8.Cal P w K mg base 1 "is_name" spIsName [] := ⟨_, _, _, _, ok_is_name F_is_name T, g_is_name, F_is_name.kp, b_is_name, .nil⟩
  have cNum : C8.Cal P w K mg base 1 "is_number" spIsNum [] := ⟨_, _, _, _, ok_is_number F_is_number T, g_is_number, F_is_number.kp, b_is_number, .nil⟩
  have mkL : MkL P w K mg base (He.ga K "Line") := ⟨_, He.mkr_ok (c.fact 46 rfl), ok_LineInit F_Line___init__ T L cName, gL⟩
  have cParse : C8.Cal P w K mg base 4 "parse_line" (spParse K (He.ga K "Line")) [] := ⟨_, _, _, _, ok_parse F_parse_line T cName cNum mkL, g_parse_line, F_parse_line.kp, b_parse_line, .nil⟩
  have cWords : C8.Cal P w K mg base 1 "_law_words" (spWords K) [] := ⟨_, _, _, _, ok_words F__law_words T, g__law_words, F__law_words.kp, b__law_words, .nil⟩
  have cLine : C8.Cal P w K mg base 5 "_law_line" (spLawLine K (He.ga K "Line")) [] := ⟨_, _, _, _, ok_law_line F__law_line cWords cParse, g__law_line, F__law_line.kp, b__law_line, .nil⟩
  have cBelow : C8.Cal P w K mg base 1 "_law_below" spBelow [] := ⟨_, _, _, _, ok_below F__law_below T, g__law_below, F__law_below.kp, b__law_below, .nil⟩
  have cRand : C8.Cal P w K mg base 1 "_law_random" (spRandom K) [] := ⟨_, _, _, _, ok_random F__law_random T, g__law_random, F__law_random.kp, b__law_random, .nil⟩
  have cShuf : C8.Cal P w K mg base 2 "_law_shuffled" (spShuf K) [] := ⟨_, _, _, _, ok_shuf F__law_shuffled T cBelow, g__law_shuffled, F__law_shuffled.kp, b__law_shuffled, .nil⟩
  have cPeople : C8.Cal P w K mg base 3 "_law_people" (spPeople K) [] := ⟨_, _, _, _, ok_people F__law_people T cBelow cShuf, g__law_people, F__law_people.kp, b__law_people, .nil⟩
  have cBytes : C8.Cal P w K mg base 1 "_law_bytes" (spBytes K) [] := ⟨_, _, _, _, ok_lawbytes F__law_bytes T, g__law_bytes, F__law_bytes.kp, b__law_bytes, .nil⟩
  have cLawSum : C8.Cal P w K mg base 1 "_law_sum" (spSum K) [] := ⟨_, _, _, _, ok_lawsum F__law_sum T, g__law_sum, F__law_sum.kp, b__law_sum, .nil⟩
  have cSum : C8.Cal P w K mg base 1 "checksum" (spSum K) [] := ⟨_, _, _, _, ok_sum F_checksum T, g_checksum, F_checksum.kp, b_checksum, .nil⟩
  have pPeople : PropC P w K mg base 1 (He.ga K "Line") "people" (spCrew (He.ga K "Line")) := ⟨_, _, _, propB_ok (c.fact 50 rfl), ok_crew F_Line_people L, b_Line_people⟩
  have mLen := He.meth_ok (c.fact 51 rfl)
  have lenLine : LenC P w K mg base 1 (He.ga K "Line") (spLineLen K (He.ga K "Line")) := ⟨_, mLen.at_, mLen.fn, (FnOk.raw (ok_lineLen F_Line___len__ T L) b_Line___len__ .nil).imp fun vs H Q E z => by rw [List.append_nil]; exact z⟩
  have cEnc : C8.Cal P w K mg base 3 "encode_line" (spEncode K (He.ga K "Line")) [] := ⟨_, _, _, _, ok_encode F_encode_line T L pPeople lenLine cSum, g_encode_line, F_encode_line.kp, b_encode_line, .nil⟩
  have mkD : C8.Mak P w K mg base 1 "Decoder" (He.ga K "Decoder") (spDecInit (He.ga K "Decoder")) [] := ⟨_, _, _, _, He.mkr_ok (c.fact 56 rfl), ok_decInit F_Decoder___init__ D, He.glo_ok X G (c.fact 55 rfl), b_Decoder___init__, .nil⟩
  have mTake : C8.Met P w K mg base 1 (He.ga K "Decoder") "take" (spTake (He.ga K "Decoder")) [] := ⟨_, _, _, _, D.cl, He.meth_ok (c.fact 57 rfl), ok_take F_Decoder_take T D, b_Decoder_take, .nil⟩
  have mPers : C8.Met P w K mg base 2 (He.ga K "Decoder") "take_person" (spPers K (He.ga K "Decoder")) [] := ⟨_, _, _, _, D.cl, He.meth_ok (c.fact 58 rfl), ok_pers F_Decoder_take_person T D L mTake, b_Decoder_take_person, .nil⟩
  have cDec : C8.Cal P w K mg base 4 "decode_line" (spDecode K (He.ga K "Line")) [] := ⟨_, _, _, _, ok_decode F_decode_line T D L mkD mTake mPers cSum mkL, g_decode_line, F_decode_line.kp, b_decode_line, .nil⟩
  have cEq : C8.Cal P w K mg base 4 "_law_equal" (spEq K 3) [] := ok_equal F__law_equal T g__law_equal b__law_equal 3
  exact ok_law F_law T L cRand cPeople cBytes cLawSum cEnc cDec cLine cEq pPeople
def nm0 : List PySem.Str := ["_wall", "LineError", "InvalidLine", "UnknownPerson", "InvalidNumber", "InvalidText", "DecodeError", "LETTERS", "MAX_LETTERS", "MAX_BUCKET", "is_name", "validate_number", "Line", "place_of", "pace_of", "first_ends", "next_ends", "Course", "ends_of", "TAG", "BYTE", "MODULUS", "checksum", "encode_line", "Decoder", "decode_line", "DIGITS", "MAX_DIGITS", "is_number", "parse_line"]
def nm1 : List PySem.Str := ["_law_random", "_law_below", "_law_shuffled", "_law_people", "_law_bytes", "_law_sum", "_law_words", "_law_line", "_law_equal"]
def names : List PySem.Str := nm0 ++ nm1
abbrev R : PySem.W.OpenRow := PySem.W.OpenLaw.row PySem.Challenge.rw_bucketline_k40_encoded_lines
abbrev hk : PySem.W.Hook := hookM 7 mfacts mdefs
def ob (s : PySem.W.SharedT) : AlM := obsMG 7 mfacts mdefs (HandSHeadRun.getT s)
theorem ob_eq (s : PySem.W.SharedT) : ob s = hk.obs s.abs := obsMG_eq (HandSHeadRun.getT_eq s)
set_option maxHeartbeats 0 in
theorem run (w : World) : HandSHeadRun.RunEq R (PySem.W.view R.prog [44]) hk ob 4000 names w := by
  intro os
  kernel_rfl
end Bk
open PySem PySem.W PySem.Calls PyProof.Rows
set_option maxHeartbeats 0 in
theorem PySem.Challenge.cw_bucketline_k40_encoded_lines_holds : PySem.Challenge.rw_bucketline_k40_encoded_lines.Holds := by
  w_on; o_law
  refine HandSHeadRun.head_any (r := OpenLaw.row PySem.Challenge.rw_bucketline_k40_encoded_lines) (q := view (OpenLaw.row PySem.Challenge.rw_bucketline_k40_encoded_lines).prog [44]) (H := Bk.hk) (ob := Bk.ob) (M := 4000) (loose := Bk.names) (d := HandSHeadRun.topDef (OpenLaw.row PySem.Challenge.rw_bucketline_k40_encoded_lines).prog 44) (kwd := []) Bk.ob_eq
    (by kernel_rfl) (fun s => by kernel_rfl) Bk.run (by kernel_rfl) (by kernel_rfl) (by kernel_rfl) (by rfl) (by first | assumption | decide +kernel) (by decide +kernel) ⟨rfl, rfl, rfl, rfl, rfl, by decide +kernel⟩ ?hw ?hc
  case hw => w_witness2
  case hc =>
    refine L2.walk_ofE (l := PySem.Challenge.rw_bucketline_k40_encoded_lines) (n := 63) (k := 6) (x := "_law_script") (CX := L2.CX0) rfl (by decide) (by kernel_rfl) ⟨rfl, by decide, by decide⟩ ?F (fun _ _ _ _ z => z)
    intro w mg fa h Y G hmg0
    obtain ⟨K, KX, c⟩ := Y
    have hmg : mg ("law" : PySem.Str) = some (.ref fa) := by
      have e : (HandSHeadRun.topDef (OpenLaw.row PySem.Challenge.rw_bucketline_k40_encoded_lines).prog 44).name = ("law" : PySem.Str) := by kernel_rfl
      rw [← e]
      exact hmg0
    obtain ⟨fd, hb, hF⟩ := Bk.all40 (P := (PySem.Challenge.rw_bucketline_k40_encoded_lines).prog) (w := w) KX G hmg c
    exact ⟨K, fd, Bk.spLaw K, KX, hb, fun H a ns hl _ hS => ⟨a, ns, rfl, hS, hl, fun _ => rfl⟩, hF⟩
