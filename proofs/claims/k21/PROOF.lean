import PyProof.Rows.All
import Wide.All
import OpenK.AllK
import Wide.FinOn
import HandS.ForMost
import HandS.ForExc
import HandS.TupAny
import HandS.Wide
import HandS.Conv
import HandS.Zip
import HandS.SetKeys
import HandS.TupLe
import KE.DataEq
import KE.DataCmp
import KE.DataAny
import KE.DataFind
import KE.SortData
import HandS.TupMul
import KE.DataIsa
import KE.DataMinMax
import KE.KDictPairs
import KE.KDictZip
import PyProof.ListStr
import HandS.Small
import HandS.Exc
import HandS.ExcOwn
import HandS.ExcCtx
import HandS.HotCalls
import HandS.ExcIs
import HandS.TryOnly
import HandS.MapJoin
import HandS.Text
import HandS.StrMore
import HandS.More
import HandS.List
import HandS.Nested
import HandS.Deep
import KE.KDictKeyed
import HandS.Strs
import HandS.SetFor
import HandS.CallLocal
import KE.KNestM
import KE.GoesMore
import HandS.EndTab
import HandS.Style
import PySem.Challenge.RW_translit_k21_whole_triangle
set_option Elab.async false
set_option linter.all false
set_option maxRecDepth 100000
set_option maxHeartbeats 400000
/-! The data layer: slots hold data, the heap stays behind a curtain. -/
namespace TD
open PySem PySem.Spec PyProof.Rows L2

abbrev D := PyData

/-! ### heaps -/
/-- the heap without M -/
def hid (M : List Addr) (H : Hp) : Hp := fun a => if a ∈ M then none else H a
theorem hid_in {M : List Addr} {H : Hp} {a : Addr} (h : a ∈ M) : hid M H a = none := by unfold hid; rw [if_pos h]
theorem hid_out {M : List Addr} {H : Hp} {a : Addr} (h : a ∉ M) : hid M H a = H a := by unfold hid; rw [if_neg h]
theorem hid_some {M : List Addr} {H : Hp} {a : Addr} {o : HO} (h : hid M H a = some o) : a ∉ M ∧ H a = some o := by
  by_cases q : a ∈ M
  · rw [hid_in q] at h; cases h
  · rw [hid_out q] at h; exact ⟨q, h⟩
theorem hid_le {M : List Addr} {H : Hp} : Same (hid M H) H := fun _ _ h => (hid_some h).2
/-- all but T stands -/
def Gr (T : List Addr) (H H' : Hp) : Prop := ∀ b o, b ∉ T → H b = some o → H' b = some o
theorem Gr.refl (T : List Addr) (H : Hp) : Gr T H H := fun _ _ _ h => h
theorem Gr.trans {T : List Addr} {H H1 H2 : Hp} (a : Gr T H H1) (b : Gr T H1 H2) : Gr T H H2 := fun c o n h => b c o n (a c o n h)
theorem Same.gr {T : List Addr} {H H1 : Hp} (a : Same H H1) : Gr T H H1 := fun b o _ h => a b o h
theorem Gr.same {H H1 : Hp} (a : Gr [] H H1) : Same H H1 := fun b o h => a b o (by simp) h
theorem Gr.mono {T T' : List Addr} {H H1 : Hp} (a : Gr T H H1) (s : ∀ b ∈ T, b ∈ T') : Gr T' H H1 := fun b o n h => a b o (fun z => n (s b z)) h
theorem Gr.hid {T M : List Addr} {H H1 : Hp} (a : Gr T H H1) (s : ∀ b ∈ T, b ∈ M) : Same (hid M H) (hid M H1) := fun b o h => by
  obtain ⟨n, e⟩ := hid_some h
  rw [hid_out n]
  exact a b o (fun z => n (s b z)) e
theorem Same.hid {M : List Addr} {H H1 : Hp} (a : Same H H1) : Same (hid M H) (hid M H1) := Gr.hid (T := []) (Same.gr a) (by simp)
theorem Same.seqT {K : PySem.W.Frag} {H H' : Hp} {a : Addr} {xs : List V} (e : Same H H') (h : SqT K H a xs) : SqT K H' a xs := by
  rcases h with (h | ⟨o, h⟩) | h
  · exact .inl (.inl (e _ _ h))
  · exact .inl (.inr ⟨o, e _ _ h⟩)
  · exact .inr h
/-- what is hidden is there -/
def Live (M : List Addr) (H : Hp) : Prop := ∀ m ∈ M, H m ≠ none
theorem Live.same {M : List Addr} {H H1 : Hp} (l : Live M H) (s : Same H H1) : Live M H1 := fun m hm e => by
  cases q : H m with
  | none => exact l m hm q
  | some o => rw [s m o q] at e; cases e
theorem Live.new {M : List Addr} {H : Hp} {p : Addr} (l : Live M H) (hp : H p = none) : p ∉ M := fun z => l p z hp
theorem same_new {H : Hp} {p : Addr} (h : H p = none) (o : HO) : Same H (upd H p o) := fun b u e => by
  rw [upd_ne (ne_of_none e h)]; exact e
theorem hid_upd_out {M : List Addr} {H : Hp} {p : Addr} {o : HO} (h : p ∉ M) : hid M (upd H p o) = upd (hid M H) p o := by
  funext b
  unfold hid upd
  by_cases q : b = p
  · subst q; rw [if_neg h, if_pos rfl, if_pos rfl]
  · rw [if_neg q, if_neg q]

/-! ### data: tracked lists and tuples alone -/
mutual
inductive Dq (H : Hp) : V → PyData → Prop
  | non : Dq H .non .none
  | bl (b : Bool) : Dq H (.bl b) (.bool b)
  | int (i : Int) : Dq H (.int i) (.int i)
  | str (x : Str) : Dq H (.str x) (.str x)
  | lst {a : Addr} {xs : List V} {ds : List PyData} : H a = some (.lst xs) → DqAll H xs ds → Dq H (.ref a) (.list ds)
  | tup {a : Addr} {o : Obj} {xs : List V} {ds : List PyData} : H a = some (.frz o (.tup xs)) → o.dict = none → DqAll H xs ds → Dq H (.ref a) (.tuple ds)
inductive DqAll (H : Hp) : List V → List PyData → Prop
  | nil : DqAll H [] []
  | cons {v : V} {vs : List V} {d : PyData} {ds : List PyData} : Dq H v d → DqAll H vs ds → DqAll H (v :: vs) (d :: ds)
end
section
variable {K : PySem.W.Frag} {H H' : Hp}
mutual
theorem dq_dp : ∀ (d : D) (v : V), Dq H v d → Dp K H v d
  | .none, _, h => by cases h; exact .non
  | .bool b, _, h => by cases h; exact .bl b
  | .int i, _, h => by cases h; exact .int i
  | .str x, _, h => by cases h; exact .str x
  | .list ds, _, h => by
    cases h with
    | lst h1 h2 => exact .lst (.inl (.inl h1)) (dqAll_dp ds _ h2)
  | .tuple ds, _, h => by
    cases h with
    | tup h1 _ h2 => exact .tup (.inl (.inr ⟨_, h1⟩)) (dqAll_dp ds _ h2)
  | .dict _, _, h => by cases h
theorem dqAll_dp : ∀ (ds : List D) (vs : List V), DqAll H vs ds → DpAll K H vs ds
  | [], _, h => by cases h; exact .nil
  | d :: ds, _, h => by
    cases h with
    | cons h1 h2 => exact .cons (dq_dp d _ h1) (dqAll_dp ds _ h2)
end
mutual
theorem dq_mono (s : Same H H') : ∀ (d : D) (v : V), Dq H v d → Dq H' v d
  | .none, _, h => by cases h; exact .non
  | .bool b, _, h => by cases h; exact .bl b
  | .int i, _, h => by cases h; exact .int i
  | .str x, _, h => by cases h; exact .str x
  | .list ds, _, h => by
    cases h with
    | lst h1 h2 => exact .lst (s _ _ h1) (dqAll_mono s ds _ h2)
  | .tuple ds, _, h => by
    cases h with
    | tup h1 h0 h2 => exact .tup (s _ _ h1) h0 (dqAll_mono s ds _ h2)
  | .dict _, _, h => by cases h
theorem dqAll_mono (s : Same H H') : ∀ (ds : List D) (vs : List V), DqAll H vs ds → DqAll H' vs ds
  | [], _, h => by cases h; exact .nil
  | d :: ds, _, h => by
    cases h with
    | cons h1 h2 => exact .cons (dq_mono s d _ h1) (dqAll_mono s ds _ h2)
end
theorem dqAll_len : ∀ {ds : List D} {vs : List V}, DqAll H vs ds → vs.length = ds.length
  | _, _, .nil => rfl
  | _, _, .cons _ t => by rw [List.length_cons, List.length_cons, dqAll_len t]
theorem dqAll_get : ∀ {ds : List D} {vs : List V} {i : Nat} {v : V}, DqAll H vs ds → vs[i]? = some v → ∃ d, ds[i]? = some d ∧ Dq H v d
  | _, _, _, _, .nil, e => by simp at e
  | _, _, 0, _, .cons h _, e => by
    simp only [List.getElem?_cons_zero, Option.some.injEq] at e
    subst e; exact ⟨_, rfl, h⟩
  | _, _, i + 1, _, .cons _ t, e => by
    rw [List.getElem?_cons_succ] at e
    obtain ⟨d, h1, h2⟩ := dqAll_get t e
    exact ⟨d, by rw [List.getElem?_cons_succ]; exact h1, h2⟩
theorem dqAll_getD : ∀ {ds : List D} {vs : List V} {i : Nat} {d : D}, DqAll H vs ds → ds[i]? = some d → ∃ v, vs[i]? = some v ∧ Dq H v d
  | _, _, _, _, .nil, e => by simp at e
  | _, _, 0, _, .cons h _, e => by
    simp only [List.getElem?_cons_zero, Option.some.injEq] at e
    subst e; exact ⟨_, rfl, h⟩
  | _, _, i + 1, _, .cons _ t, e => by
    rw [List.getElem?_cons_succ] at e
    obtain ⟨d, h1, h2⟩ := dqAll_getD t e
    exact ⟨d, by rw [List.getElem?_cons_succ]; exact h1, h2⟩
theorem dqAll_app : ∀ {ds es : List D} {vs ws : List V}, DqAll H vs ds → DqAll H ws es → DqAll H (vs ++ ws) (ds ++ es)
  | _, _, _, _, .nil, h => h
  | _, _, _, _, .cons h t, h' => .cons h (dqAll_app t h')
theorem dqAll_take : ∀ {ds : List D} {vs : List V} (n : Nat), DqAll H vs ds → DqAll H (vs.take n) (ds.take n)
  | _, _, 0, _ => .nil
  | _, _, _ + 1, .nil => .nil
  | _, _, n + 1, .cons h t => .cons h (dqAll_take n t)
theorem dqAll_drop : ∀ {ds : List D} {vs : List V} (n : Nat), DqAll H vs ds → DqAll H (vs.drop n) (ds.drop n)
  | _, _, 0, h => h
  | _, _, _ + 1, .nil => .nil
  | _, _, n + 1, .cons _ t => dqAll_drop n t
theorem dqAll_rev : ∀ {ds : List D} {vs : List V}, DqAll H vs ds → DqAll H vs.reverse ds.reverse
  | _, _, .nil => .nil
  | _, _, .cons h t => by rw [List.reverse_cons, List.reverse_cons]; exact dqAll_app (dqAll_rev t) (.cons h .nil)
theorem dqAll_dropLast {ds : List D} {vs : List V} (h : DqAll H vs ds) : DqAll H vs.dropLast ds.dropLast := by
  rw [List.dropLast_eq_take, List.dropLast_eq_take, dqAll_len h]; exact dqAll_take _ h
theorem dqAll_ints : ∀ ns : List Int, DqAll H (ns.map V.int) (ns.map PyData.int)
  | [] => .nil
  | n :: ns => .cons (.int n) (dqAll_ints ns)
theorem dqAll_bools : ∀ {bs : List Bool} {vs : List V}, DqAll H vs (bs.map PyData.bool) → vs = bs.map V.bl
  | [], _, h => by cases h; rfl
  | b :: bs, _, h => by
    cases h with
    | cons h1 h2 => cases h1; rw [dqAll_bools h2]; rfl
theorem dqAll_strs : ∀ {bs : List Str} {vs : List V}, DqAll H vs (bs.map PyData.str) → vs = bs.map V.str
  | [], _, h => by cases h; rfl
  | b :: bs, _, h => by
    cases h with
    | cons h1 h2 => cases h1; rw [dqAll_strs h2]; rfl
theorem dq_int {v : V} {i : Int} (h : Dq H v (.int i)) : v = .int i := by cases h; rfl
theorem dq_str {v : V} {x : Str} (h : Dq H v (.str x)) : v = .str x := by cases h; rfl
theorem dq_bool {v : V} {b : Bool} (h : Dq H v (.bool b)) : v = .bl b := by cases h; rfl
theorem dq_none {v : V} (h : Dq H v .none) : v = .non := by cases h; rfl
theorem dq_list {v : V} {ds : List D} (h : Dq H v (.list ds)) : ∃ a xs, v = .ref a ∧ H a = some (.lst xs) ∧ DqAll H xs ds := by
  cases h with
  | lst h1 h2 => exact ⟨_, _, rfl, h1, h2⟩
theorem dq_tuple {v : V} {ds : List D} (h : Dq H v (.tuple ds)) : ∃ a o xs, v = .ref a ∧ H a = some (.frz o (.tup xs)) ∧ o.dict = none ∧ DqAll H xs ds := by
  cases h with
  | tup h1 h0 h2 => exact ⟨_, _, _, rfl, h1, h0, h2⟩
end

/-! ### what a slot holds -/
inductive DV where
  | z
  | d (x : D)
  | v (x : V)
  | k (kvs : List (Key × D))
  | s (ns : List Int)
  | ks (ts : List (List (Key × D)))
abbrev KD (H : Hp) : List (Key × V) → List (Key × D) → Prop := Paired fun p q => p.1 = q.1 ∧ Dq H p.2 q.2
theorem KD.mono {H H' : Hp} {a : List (Key × V)} {b : List (Key × D)} (s : Same H H') (h : KD H a b) : KD H' a b := L2.Paired.mapP h fun p q z => ⟨z.1, dq_mono s _ _ z.2⟩
/-- at v stands a dict, a list of dicts -/
def Dct (H : Hp) (v : V) (kvs : List (Key × D)) : Prop := ∃ a kv, v = .ref a ∧ H a = some (.dK kv) ∧ KD H kv kvs
theorem Dct.mono {H H' : Hp} (s : Same H H') {v : V} {kvs : List (Key × D)} : Dct H v kvs → Dct H' v kvs := fun ⟨a, kv, h1, h2, h3⟩ => ⟨a, kv, h1, s _ _ h2, h3.mono s⟩
def Dcts (H : Hp) (v : V) (ts : List (List (Key × D))) : Prop := ∃ a vs, v = .ref a ∧ H a = some (.lst vs) ∧ Paired (Dct H) vs ts
theorem Dcts.mono {H H' : Hp} (s : Same H H') {v : V} {ts : List (List (Key × D))} : Dcts H v ts → Dcts H' v ts := fun ⟨a, vs, h1, h2, h3⟩ => ⟨a, vs, h1, s _ _ h2, L2.Paired.mapP h3 fun _ _ z => z.mono s⟩
def VOk (K : PySem.W.Frag) (H : Hp) (v : V) : DV → Prop
  | .z => True
  | .d x => Dq H v x
  | .v x => v = x
  | .k kvs => ∃ a kv, v = .ref a ∧ H a = some (.dK kv) ∧ KD H kv kvs
  | .s ns => ∃ a, v = .ref a ∧ SqL K H a (ns.map V.int)
  | .ks ts => Dcts H v ts
theorem VOk.mono {K : PySem.W.Frag} {H H' : Hp} (s : Same H H') {v : V} : ∀ {x : DV}, VOk K H v x → VOk K H' v x
  | .z, _ => trivial
  | .d _, h => dq_mono s _ _ h
  | .v _, h => h
  | .k _, ⟨a, kv, h1, h2, h3⟩ => ⟨a, kv, h1, s _ _ h2, h3.mono s⟩
  | .s _, ⟨a, h1, h2⟩ => ⟨a, h1, L2.Same.seq s h2⟩
  | .ks _, h => Dcts.mono s h
def SOk (K : PySem.W.Frag) (H : Hp) (o : Option V) : DV → Prop
  | .z => True
  | .d x => ∃ v, o = some v ∧ Dq H v x
  | .v x => o = some x
  | .k kvs => ∃ v, o = some v ∧ VOk K H v (.k kvs)
  | .s ns => ∃ v, o = some v ∧ VOk K H v (.s ns)
  | .ks ts => ∃ v, o = some v ∧ VOk K H v (.ks ts)
theorem SOk.of {K : PySem.W.Frag} {H : Hp} {v : V} : ∀ {x : DV}, VOk K H v x → SOk K H (some v) x
  | .z, _ => trivial
  | .d _, h => ⟨v, rfl, h⟩
  | .v _, h => by have e : v = _ := h; rw [e]; exact rfl
  | .k _, h => ⟨v, rfl, h⟩
  | .s _, h => ⟨v, rfl, h⟩
  | .ks _, h => ⟨v, rfl, h⟩
theorem SOk.get {K : PySem.W.Frag} {H : Hp} {o : Option V} : ∀ {x : DV}, x ≠ .z → SOk K H o x → ∃ v, o = some v ∧ VOk K H v x
  | .z, n, _ => absurd rfl n
  | .d _, _, h => h
  | .v x, _, h => ⟨x, h, rfl⟩
  | .k _, _, h => h
  | .s _, _, h => h
  | .ks _, _, h => h
theorem SOk.mono {K : PySem.W.Frag} {H H' : Hp} (s : Same H H') {o : Option V} : ∀ {x : DV}, SOk K H o x → SOk K H' o x
  | .z, _ => trivial
  | .d _, ⟨v, e, h⟩ => ⟨v, e, dq_mono s _ _ h⟩
  | .v _, h => h
  | .k _, ⟨v, e, h⟩ => ⟨v, e, VOk.mono s h⟩
  | .s _, ⟨v, e, h⟩ => ⟨v, e, VOk.mono s h⟩
  | .ks _, ⟨v, e, h⟩ => ⟨v, e, VOk.mono s h⟩
def Env (K : PySem.W.Frag) (H : Hp) : L2.St → List DV → Prop
  | [], [] => True
  | o :: σ, x :: ρ => SOk K H o x ∧ Env K H σ ρ
  | [], _ :: _ => False
  | _ :: _, [] => False
section
variable {K : PySem.W.Frag} {H H' : Hp}
theorem Env.mono (s : Same H H') : ∀ {σ : L2.St} {ρ : List DV}, Env K H σ ρ → Env K H' σ ρ
  | [], [], _ => trivial
  | _ :: _, _ :: _, ⟨a, b⟩ => ⟨a.mono s, Env.mono s b⟩
  | [], _ :: _, h => h.elim
  | _ :: _, [], h => h.elim
theorem Env.get : ∀ {σ : L2.St} {ρ : List DV} {i : Nat} {x : DV}, Env K H σ ρ → ρ[i]? = some x → x ≠ .z → ∃ v, σ[i]? = some (some v) ∧ VOk K H v x
  | [], [], _, _, _, e, _ => by simp at e
  | o :: _, y :: _, 0, x, ⟨a, _⟩, e, n => by
    simp only [List.getElem?_cons_zero, Option.some.injEq] at e
    subst e
    obtain ⟨v, rfl, h⟩ := a.get n
    exact ⟨v, rfl, h⟩
  | _ :: _, _ :: _, i + 1, x, ⟨_, b⟩, e, n => by
    rw [List.getElem?_cons_succ] at e
    obtain ⟨v, h1, h2⟩ := Env.get b e n
    exact ⟨v, by rw [List.getElem?_cons_succ]; exact h1, h2⟩
  | [], _ :: _, _, _, h, _, _ => h.elim
  | _ :: _, [], _, _, h, _, _ => h.elim
theorem Env.set : ∀ {σ : L2.St} {ρ : List DV} (i : Nat) {o : Option V} {x : DV}, Env K H σ ρ → SOk K H o x → Env K H (σ.set i o) (ρ.set i x)
  | [], [], _, _, _, _, _ => trivial
  | _ :: _, _ :: _, 0, _, _, ⟨_, b⟩, h => ⟨h, b⟩
  | _ :: _, _ :: _, i + 1, _, _, ⟨a, b⟩, h => ⟨a, Env.set i b h⟩
  | [], _ :: _, _, _, _, h, _ => h.elim
  | _ :: _, [], _, _, _, h, _ => h.elim
theorem Env.len : ∀ {σ : L2.St} {ρ : List DV}, Env K H σ ρ → σ.length = ρ.length
  | [], [], _ => rfl
  | _ :: _, _ :: _, ⟨_, b⟩ => by rw [List.length_cons, List.length_cons, Env.len b]
  | [], _ :: _, h => h.elim
  | _ :: _, [], h => h.elim
def wipeD (ρ : List DV) : List Nat → List DV
  | [] => ρ
  | v :: vs => (wipeD ρ vs).set v .z
theorem Env.wipe {σ : L2.St} {ρ : List DV} (h : Env K H σ ρ) : ∀ vs : List Nat, Env K H (wipe σ vs) (wipeD ρ vs)
  | [] => h
  | v :: vs => Env.set v (Env.wipe h vs) trivial
def Args (K : PySem.W.Frag) (H : Hp) : List V → List DV → Prop := Paired fun v x => VOk K H v x
theorem Args.mono (s : Same H H') {vs : List V} {xs : List DV} (h : Args K H vs xs) : Args K H' vs xs := L2.Paired.mapP h fun _ _ z => VOk.mono s z
theorem Args.len : ∀ {vs : List V} {xs : List DV}, Args K H vs xs → vs.length = xs.length
  | _, _, .nil => rfl
  | _, _, .cons _ t => by rw [List.length_cons, List.length_cons, Args.len t]
theorem env_rep : ∀ n : Nat, Env K H (List.replicate n none) (List.replicate n .z)
  | 0 => trivial
  | n + 1 => ⟨trivial, env_rep n⟩
theorem env_args : ∀ {vs : List V} {xs : List DV} {σ : L2.St} {ρ : List DV}, Args K H vs xs → Env K H σ ρ → Env K H (vs.map some ++ σ) (xs ++ ρ)
  | _, _, _, _, .nil, h => h
  | _, _, _, _, .cons a t, h => ⟨SOk.of a, env_args t h⟩
/-- the names at a def's entry -/
theorem env_start {N : List Str} {vs : List V} {xs : List DV} (h : Args K H vs xs) : Env K H (L2.start N vs) (xs ++ List.replicate (N.length - xs.length) .z) := by
  unfold L2.start
  rw [Args.len h]
  exact env_args h (env_rep _)
end

/-! ### what evaluates to what -/
/-- what stands: the written part, what is hidden, what may have changed since H -/
structure Cz where
  K : PySem.W.Frag
  M : List Addr
  T : List Addr
  H : Hp
abbrev Cz.hid (c : Cz) (H : Hp) : Hp := TD.hid c.M H
/-- a state in which c's facts hold -/
structure At (c : Cz) (H : Hp) (σ : L2.St) (ρ : List DV) : Prop where
  gr : Gr c.T c.H H
  lv : Live c.M H
  env : Env c.K (c.hid H) σ ρ
theorem At.same {c : Cz} {H H1 : Hp} {σ : L2.St} {ρ : List DV} (a : At c H σ ρ) (s : Same H H1) : At c H1 σ ρ := ⟨a.gr.trans (Same.gr s), a.lv.same s, a.env.mono (Same.hid s)⟩
theorem At.set {c : Cz} {H : Hp} {σ : L2.St} {ρ : List DV} (a : At c H σ ρ) (i : Nat) {v : V} {x : DV} (h : VOk c.K (c.hid H) v x) : At c H (σ.set i (some v)) (ρ.set i x) := ⟨a.gr, a.lv, a.env.set i (SOk.of h)⟩
theorem At.wipe {c : Cz} {H : Hp} {σ : L2.St} {ρ : List DV} (a : At c H σ ρ) (vs : List Nat) : At c H (wipe σ vs) (wipeD ρ vs) := ⟨a.gr, a.lv, a.env.wipe vs⟩
def EvX (c : Cz) (te : TE) (ρ : List DV) (x : DV) : Prop := ∀ H1 σ, At c H1 σ ρ → ∀ Q : VK, (∀ v H2, Same H1 H2 → VOk c.K (c.hid H2) v x → Q v H2) → te σ H1 Q
def EvB (c : Cz) (tt : TT) (ρ : List DV) (b : Bool) : Prop := ∀ H1 σ, At c H1 σ ρ → ∀ Q : Bool → Hp → Prop, (∀ H2, Same H1 H2 → Q b H2) → tt σ H1 Q
def EvA (c : Cz) (ta : TA) (ρ : List DV) (xs : List DV) : Prop := ∀ H1 σ, At c H1 σ ρ → ∀ Q : List V → Hp → Prop, (∀ vs H2, Same H1 H2 → Args c.K (c.hid H2) vs xs → Q vs H2) → ta σ H1 Q
def EvO (c : Cz) (to : TO) (ρ : List DV) (o : Option Int) : Prop := ∀ H1 σ, At c H1 σ ρ → ∀ Q : Option Int → Hp → Prop, (∀ H2, Same H1 H2 → Q o H2) → to σ H1 Q
/-- a two-place operation, a call by values -/
def RX (c : Cz) (r : R2) (x y z : DV) : Prop := ∀ H1, Gr c.T c.H H1 → Live c.M H1 → ∀ u v, VOk c.K (c.hid H1) u x → VOk c.K (c.hid H1) v y → ∀ Q : VK, (∀ w H2, Same H1 H2 → VOk c.K (c.hid H2) w z → Q w H2) → r u v H1 Q
def RCX (c : Cz) (r : List V → Hp → VK → Prop) (xs : List DV) (z : DV) : Prop := ∀ H1, Gr c.T c.H H1 → Live c.M H1 → ∀ vs, Args c.K (c.hid H1) vs xs → ∀ Q : VK, (∀ w H2, Same H1 H2 → VOk c.K (c.hid H2) w z → Q w H2) → r vs H1 Q
def RMX (c : Cz) (r : V → List V → Hp → VK → Prop) (x : DV) (xs : List DV) (z : DV) : Prop := ∀ H1, Gr c.T c.H H1 → Live c.M H1 → ∀ v vs, VOk c.K (c.hid H1) v x → Args c.K (c.hid H1) vs xs → ∀ Q : VK, (∀ w H2, Same H1 H2 → VOk c.K (c.hid H2) w z → Q w H2) → r v vs H1 Q
section
variable {c : Cz} {ρ : List DV} {te ta tb td : TE} {tt tu : TT} {x y z : DV} {i : Nat}
theorem EvX.is (h : EvX c te ρ x) (e : x = y) : EvX c te ρ y := e ▸ h
theorem EvB.is {a b : Bool} (h : EvB c tt ρ a) (e : a = b) : EvB c tt ρ b := e ▸ h
theorem ev_var (h : ρ[i]? = some x) (n : x ≠ .z := by intro h; cases h) : EvX c (tVar i) ρ x := fun H1 σ a Q q => by
  obtain ⟨v, e, o⟩ := a.env.get h n
  exact ⟨v, e, q v H1 (Same.refl H1) o⟩
theorem ev_int {k : Int} : EvX c (tC (.int k)) ρ (.d (.int k)) := fun H1 σ a Q q => q _ H1 (Same.refl H1) (Dq.int k)
theorem ev_str {k : Str} : EvX c (tC (.str k)) ρ (.d (.str k)) := fun H1 σ a Q q => q _ H1 (Same.refl H1) (Dq.str k)
theorem ev_bl {k : Bool} : EvX c (tC (.bl k)) ρ (.d (.bool k)) := fun H1 σ a Q q => q _ H1 (Same.refl H1) (Dq.bl k)
theorem ev_non : EvX c (tC .non) ρ (.d .none) := fun H1 σ a Q q => q _ H1 (Same.refl H1) Dq.non
theorem ev_c {v : V} : EvX c (tC v) ρ (.v v) := fun H1 σ a Q q => q _ H1 (Same.refl H1) rfl
theorem ev_op {r : R2} (ha : EvX c ta ρ x) (hb : EvX c tb ρ y) (hr : RX c r x y z) : EvX c (tOp r ta tb) ρ z := fun H1 σ a Q q =>
  ha H1 σ a _ fun u H2 s2 o2 => hb H2 σ (a.same s2) _ fun v H3 s3 o3 => hr H3 ((a.same s2).same s3).gr ((a.same s2).same s3).lv u v (o2.mono (Same.hid s3)) o3 _ fun w H4 s4 o4 => q w H4 (s2.trans (s3.trans s4)) o4
theorem ea_nil : EvA c tNil ρ [] := fun H1 σ a Q q => q [] H1 (Same.refl H1) .nil
theorem ea_cons {tr : TA} {xs : List DV} (h : EvX c ta ρ x) (hr : EvA c tr ρ xs) : EvA c (tCons ta tr) ρ (x :: xs) := fun H1 σ a Q q =>
  h H1 σ a _ fun v H2 s2 o2 => hr H2 σ (a.same s2) _ fun vs H3 s3 o3 => q (v :: vs) H3 (s2.trans s3) (.cons (o2.mono (Same.hid s3)) o3)
theorem ev_cb {r : List V → Hp → VK → Prop} {tr : TA} {xs : List DV} (ha : EvA c tr ρ xs) (hr : RCX c r xs z) : EvX c (tCB r tr) ρ z := fun H1 σ a Q q =>
  ha H1 σ a _ fun vs H2 s2 o2 => hr H2 (a.same s2).gr (a.same s2).lv vs o2 _ fun w H3 s3 o3 => q w H3 (s2.trans s3) o3
theorem eo_none : EvO c tNoPart ρ none := fun H1 σ a Q q => q H1 (Same.refl H1)
theorem eo_some {k : Int} (h : EvX c te ρ (.d (.int k))) : EvO c (tPart te) ρ (some k) := fun H1 σ a Q q =>
  h H1 σ a _ fun v H2 s2 o2 => ⟨k, dq_int o2, q H2 s2⟩
/-! tests -/
theorem eb_test {b : Bool} (h : EvX c te ρ (.d (.bool b))) : EvB c (tTest te) ρ b := fun H1 σ a Q q =>
  h H1 σ a _ fun v H2 s2 o2 => ⟨b, dq_bool o2, q H2 s2⟩
theorem eb_B {b : Bool} (h : EvX c te ρ (.d (.bool b))) : EvB c (tB te) ρ b := fun H1 σ a Q q =>
  h H1 σ a _ fun v H2 s2 o2 => ⟨b, dq_bool o2, q H2 s2⟩
theorem eb_yes : EvB c tYes ρ true := fun H1 σ a Q q => q H1 (Same.refl H1)
theorem eb_not {b : Bool} (h : EvB c tt ρ b) : EvB c (tNot tt) ρ (!b) := fun H1 σ a Q q => h H1 σ a _ fun H2 s2 => q H2 s2
theorem eb_and {a b : Bool} (h1 : EvB c tt ρ a) (h2 : a = true → EvB c tu ρ b) : EvB c (tAnd tt tu) ρ (a && b) := fun H1 σ e Q q => h1 H1 σ e _ fun H2 s2 => by
  cases a with
  | true => exact iteT (h2 rfl H2 σ (e.same s2) Q fun H3 s3 => q H3 (s2.trans s3))
  | false => exact iteF (q H2 s2)
theorem eb_or {a b : Bool} (h1 : EvB c tt ρ a) (h2 : a = false → EvB c tu ρ b) : EvB c (tOr tt tu) ρ (a || b) := fun H1 σ e Q q => h1 H1 σ e _ fun H2 s2 => by
  cases a with
  | true => exact iteT (q H2 s2)
  | false => exact iteF (h2 rfl H2 σ (e.same s2) Q fun H3 s3 => q H3 (s2.trans s3))
theorem ev_andV {a b : Bool} (h1 : EvX c ta ρ (.d (.bool a))) (h2 : a = true → EvX c tb ρ (.d (.bool b))) : EvX c (tAndV ta tb) ρ (.d (.bool (a && b))) := fun H1 σ e Q q => h1 H1 σ e _ fun v H2 s2 o2 => ⟨a, dq_bool o2, by
  cases a with
  | true => exact iteT (h2 rfl H2 σ (e.same s2) Q fun w H3 s3 o3 => q w H3 (s2.trans s3) o3)
  | false => exact iteF (q _ H2 s2 (Dq.bl false))⟩
theorem ev_orV {a b : Bool} (h1 : EvX c ta ρ (.d (.bool a))) (h2 : a = false → EvX c tb ρ (.d (.bool b))) : EvX c (tOrV ta tb) ρ (.d (.bool (a || b))) := fun H1 σ e Q q => h1 H1 σ e _ fun v H2 s2 o2 => ⟨a, dq_bool o2, by
  cases a with
  | true => exact iteT (q _ H2 s2 (Dq.bl true))
  | false => exact iteF (h2 rfl H2 σ (e.same s2) Q fun w H3 s3 o3 => q w H3 (s2.trans s3) o3)⟩
theorem ev_notV {a : Bool} (h1 : EvX c ta ρ (.d (.bool a))) : EvX c (tNotV ta) ρ (.d (.bool (!a))) := fun H1 σ e Q q => h1 H1 σ e _ fun v H2 s2 o2 => ⟨a, dq_bool o2, q _ H2 s2 (Dq.bl _)⟩
theorem ev_if {b : Bool} (h : EvB c tt ρ b) (h1 : b = true → EvX c ta ρ x) (h2 : b = false → EvX c tb ρ x) : EvX c (tIf tt ta tb) ρ x := fun H1 σ e Q q => h H1 σ e _ fun H2 s2 => by
  cases b with
  | true => exact iteT (h1 rfl H2 σ (e.same s2) Q fun w H3 s3 o3 => q w H3 (s2.trans s3) o3)
  | false => exact iteF (h2 rfl H2 σ (e.same s2) Q fun w H3 s3 o3 => q w H3 (s2.trans s3) o3)
end
end TD
set_option Elab.async false
set_option linter.all false
set_option maxRecDepth 100000
set_option maxHeartbeats 400000
/-! Operators, calls and comprehensions over data. -/
namespace TD
open PySem PySem.Spec PyProof.Rows L2

/-! ### plain data -/
mutual
theorem dq_plain {H : Hp} : ∀ (d : D) (v : V), Dq H v d → d.plain = true
  | .none, _, _ => rfl
  | .bool _, _, _ => rfl
  | .int _, _, _ => rfl
  | .str _, _, _ => rfl
  | .list ds, _, h => by cases h with | lst _ h2 => exact dqAll_plain ds _ h2
  | .tuple ds, _, h => by cases h with | tup _ _ h2 => exact dqAll_plain ds _ h2
  | .dict _, _, h => by cases h
theorem dqAll_plain {H : Hp} : ∀ (ds : List D) (vs : List V), DqAll H vs ds → PyData.plainAll ds = true
  | [], _, _ => rfl
  | d :: ds, _, h => by
    cases h with
    | cons h1 h2 =>
      show (PyData.plain d && PyData.plainAll ds) = true
      rw [dq_plain d _ h1, dqAll_plain ds _ h2]; rfl
end
section
variable {X : Cx} {pins : List (Addr × Obj)} {σ : L2.St} {H : Hp} {s : Shared}
theorem rd_q (I : Inv X pins σ H s) {d : D} {v : V} {u : Value} (h : Dq H v d) (r : RelV v u) : ∃ as, Reads s.heap u d as := Dp.reads I d v u (dq_dp d v h) r
theorem rdAll_q (I : Inv X pins σ H s) {ds : List D} {vs : List V} {us : List Value} (h : DqAll H vs ds) (r : Vals vs us) : ∃ as, ReadsAll s.heap us ds as := Dp.readsAll I ds vs us (dqAll_dp ds vs h) r
end
/-- texts by their signs -/
abbrev sw (l : List Nat) : Str := ⟨l.toArray⟩
abbrev tl (x : Str) : List Nat := x.cps.toList
theorem sw_tl (x : Str) : sw (tl x) = x := by cases x; simp [sw, tl]
theorem tl_sw (l : List Nat) : tl (sw l) = l := by simp [sw, tl]
theorem sw_inj {a b : List Nat} (h : sw a = sw b) : a = b := by have := congrArg tl h; rwa [tl_sw, tl_sw] at this
theorem sw_app (a b : List Nat) : sw a ++ sw b = sw (a ++ b) := TL.ext_tl (by rw [TL.tl_append])
theorem sw_len (l : List Nat) : (sw l).length = l.length := by show l.toArray.size = _; simp
abbrev ds (l : List Nat) : D := .str (sw l)

/-! ### tuples, known to the object -/
section
variable {X : Cx} {pins : List (Addr × Obj)} {σ : L2.St} {H : Hp} {s : Shared} {es : List Expr} {t : TA} {pos : Pos}
/-- a new tuple at p -/
def NewT (xs : List V) (H : Hp) (Q : VK) : Prop := ∀ p o, H p = none → o.dict = none → Q (.ref p) (upd H p (.frz o (.tup xs)))
theorem laid_tup {h' : Heap} {xs : List V} {us : List Value} {tk : Nat} {Q : VK} (I : Inv X pins σ H { s with heap := h' }) (r : Vals xs us) (hz : xs.length ≤ sizeLine) (q : NewT xs H Q) :
    EP X pins σ Q (.ref h'.objs.size) { s with heap := h'.push { cls := .type "tuple", data := .seq us.toArray }, toks := tk } := by
  have e : (h'.push { cls := .type "tuple", data := .seq us.toArray }).get? h'.objs.size = some { cls := .type "tuple", data := .seq us.toArray } := Heap.get?_push_size _ rfl
  refine ⟨.ref h'.objs.size, upd H h'.objs.size (.frz { cls := .type "tuple", data := .seq us.toArray } (.tup xs)), I.laid (t' := tk) (fun b u e => Heap.get?_push_of_some _ e) (Nat.le_refl _) ?_, rfl, q _ _ (I.hok.fresh (Nat.le_refl _)) rfl⟩
  exact ⟨e, hz, us, r, ⟨_, e, rfl, _, rfl⟩⟩
def tTupF (t : TA) : TE := fun σ H Q => t σ H fun xs H1 => xs.length ≤ sizeLine ∧ NewT xs H1 Q
theorem pe_tupF {x1} (h : PA X es t) : PE X (.Tuple es x1 pos) (tTupF t) := by
  refine ⟨fun pins s σ H Q I hq => ?_⟩
  refine wpAny_Tuple_spliced (thn (h.run pos pins s σ H _ I hq) fun us s1 ⟨xs, H1, I1, r, z, q⟩ => ⟨by rw [← r.length]; exact z, ?_⟩)
  exact laid_tup (h' := s1.heap) I1 r z q
def rTupOf (K : PySem.W.Frag) : List V → Hp → VK → Prop := fun xs H Q => ∃ p ys, xs = [.ref p] ∧ ((SqL K H p ys ∧ NewT ys H Q) ∨ (SqT K H p ys ∧ Q (.ref p) H))
theorem call_tupleF : CallR X (.type "tuple") (rTupOf X.K) := by
  intro pins s σ H xs us Q I r h
  obtain ⟨p, ys, rfl, h⟩ := h
  obtain ⟨u, rfl, rx⟩ := vals1 r
  cases rx
  rcases h with ⟨hq, q⟩ | ⟨hq, q⟩
  · obtain ⟨its, r', pl, hz⟩ := I.list hq
    have hlen := r'.length
    refine call_tuple_list pl.isList (fun h' kp => ?_) (by simp only [List.size_toArray] <;> omega)
    exact laid_tup (tk := s.toks) (I.kept (t' := s.toks) kp) r' hz q
  · obtain ⟨its, r', pl, hz⟩ := I.tuple hq
    exact call_tuple_same pl ⟨.ref p, H, I, rfl, q⟩
def rCatF (K : PySem.W.Frag) : R2 := fun x y H Q => ∃ a b xs ys, x = .ref a ∧ y = .ref b ∧ SqT K H a xs ∧ SqT K H b ys ∧ xs.length + ys.length ≤ sizeLine ∧
  (xs = [] → Q (.ref b) H) ∧ (xs ≠ [] → ys = [] → Q (.ref a) H) ∧ (xs ≠ [] → ys ≠ [] → NewT (xs ++ ys) H Q)
theorem op_catF : OpR X (binaryOp .Add) (rCatF X.K) := by
  intro pins s σ H x y v u Q I rx ry h
  obtain ⟨a, b, xs, ys, rfl, rfl, ha, hb, hz, q0, q1, q2⟩ := h
  cases rx
  cases ry
  obtain ⟨its, r1, p1, _⟩ := I.tuple ha
  obtain ⟨its2, r2, p2, _⟩ := I.tuple hb
  by_cases hx : xs = []
  · subst hx
    cases r1
    exact L2.cat_tup0 p1 p2 ⟨.ref b, H, I, rfl, q0 rfl⟩
  · have l1 := r1.length
    have l2 := r2.length
    refine HT.cat_tup p1 p2 (fun e => hx (r1.nil_iff.mp e)) (fun e => ⟨.ref a, H, I, rfl, q1 hx (r2.nil_iff.mp e)⟩) (fun e => ?_) (by omega)
    exact laid_tup (h' := s.heap) (tk := s.toks) I (r1.append r2) (by rw [List.length_append]; exact hz) (q2 hx fun z => e (r2.nil_iff.mpr z))
def rSlF (K : PySem.W.Frag) : V → Option Int → Option Int → Hp → VK → Prop := fun x lo hi H Q => ∃ a xs, x = .ref a ∧ SqT K H a xs ∧
  (HT.sIx xs.length 0 lo = 0 ∧ HT.sIx xs.length xs.length hi = xs.length → Q (.ref a) H) ∧ (¬ (HT.sIx xs.length 0 lo = 0 ∧ HT.sIx xs.length xs.length hi = xs.length) → NewT (cutV xs lo hi) H Q)
theorem sl_tupF : SlR X (rSlF X.K) := by
  intro pins s σ H x v vl vu lo hi sl Q I rx hs pl pu h
  obtain ⟨a, xs, rfl, hx, q1, q2⟩ := h
  cases rx
  obtain ⟨its, r, ht, hz⟩ := I.tuple hx
  have hlen : its.toArray.size = xs.length := by rw [List.size_toArray]; exact r.length.symm
  refine ⟨"tuple", _, PyProof.Rows.slot_tuple_getitem.lookup, ht.typeIs, ?_⟩
  by_cases hw : HT.sIx xs.length 0 lo = 0 ∧ HT.sIx xs.length xs.length hi = xs.length
  · exact L2.getItem_tuple_whole ht hs pl pu (by rw [hlen]; exact hw) ⟨.ref a, H, I, rfl, q1 hw⟩
  · refine HT.getItem_tuple_cut ht hs pl pu (by rw [hlen]; exact hw) ?_ (by omega)
    rw [hlen]
    exact laid_tup (h' := s.heap) (tk := s.toks) I ((r.drop _).take _) (Nat.le_trans (cutV_length xs lo hi) hz) (q2 hw)
end
/-! ### operators by values -/
section
variable {X : Cx}
def rEqQ : R2 := fun x y H Q => ∃ d e, Dq H x d ∧ Dq H y e ∧ min d.depth e.depth ≤ 60 ∧ Q (.bl (PyData.eqv d e)) H
def rNeQ : R2 := fun x y H Q => ∃ d e, Dq H x d ∧ Dq H y e ∧ min d.depth e.depth ≤ 60 ∧ Q (.bl (!PyData.eqv d e)) H
theorem op_eqQ (hu : X.A.units + 64 < cLine) : OpR X (compareOp .Eq) rEqQ := by
  intro pins s σ H x y v u Q I rx ry h
  obtain ⟨d, e, hd, he, hb, q⟩ := h
  obtain ⟨as, r1⟩ := rd_q I hd rx
  obtain ⟨bs, r2⟩ := rd_q I he ry
  exact SeqAt.eq_plain r1 r2 (dq_plain _ _ hd) (dq_plain _ _ he) (by omega) ⟨.bl _, H, I, rfl, q⟩
theorem op_neQ (hu : X.A.units + 64 < cLine) : OpR X (compareOp .NotEq) rNeQ := by
  intro pins s σ H x y v u Q I rx ry h
  obtain ⟨d, e, hd, he, hb, q⟩ := h
  obtain ⟨as, r1⟩ := rd_q I hd rx
  obtain ⟨bs, r2⟩ := rd_q I he ry
  exact SeqAt.ne_plain r1 r2 (dq_plain _ _ hd) (dq_plain _ _ he) (by omega) ⟨.bl _, H, I, rfl, q⟩
/-- a < b, .. of alike data (texts, tuples, ..) -/
def rCmpQ (f : D → D → Bool) : R2 := fun x y H Q => ∃ d e, Dq H x d ∧ Dq H y e ∧ PySem.W.alike d e = true ∧ d ≠ .none ∧ min d.depth e.depth ≤ 60 ∧ Q (.bl (f d e)) H
theorem op_ltQ (hu : X.A.units + 64 < cLine) : OpR X (compareOp .Lt) (rCmpQ PySem.W.dataLt) := by
  intro pins s σ H x y v u Q I rx ry h
  obtain ⟨d, e, hd, he, ha, hn, hb, q⟩ := h
  obtain ⟨as, r1⟩ := rd_q I hd rx
  obtain ⟨bs, r2⟩ := rd_q I he ry
  exact PySem.W.lt_data r1 r2 ha hn (by omega) ⟨.bl _, H, I, rfl, q⟩
theorem op_gtQ (hu : X.A.units + 64 < cLine) : OpR X (compareOp .Gt) (rCmpQ fun d e => PySem.W.dataLt e d) := by
  intro pins s σ H x y v u Q I rx ry h
  obtain ⟨d, e, hd, he, ha, hn, hb, q⟩ := h
  obtain ⟨as, r1⟩ := rd_q I hd rx
  obtain ⟨bs, r2⟩ := rd_q I he ry
  exact PySem.W.gt_data r1 r2 ha hn (by omega) ⟨.bl _, H, I, rfl, q⟩
def rLtU : R2 := fun x y H Q => rI0 (fun i j => .bl (decide (i < j))) x y H Q ∨ rCmpQ PySem.W.dataLt x y H Q
theorem op_ltU (hu : X.A.units + 64 < cLine) : OpR X (compareOp .Lt) rLtU := OpR.or op_lt (op_ltQ hu)
def rGtU : R2 := fun x y H Q => rI0 (fun i j => .bl (decide (j < i))) x y H Q ∨ rCmpQ (fun d e => PySem.W.dataLt e d) x y H Q
theorem op_gtU (hu : X.A.units + 64 < cLine) : OpR X (compareOp .Gt) rGtU := OpR.or op_gt (op_gtQ hu)
/-- + -/
def rAddU (K : PySem.W.Frag) : R2 := fun x y H Q => rI0 (fun i j => .int (i + j)) x y H Q ∨ (∃ i j, x = .str i ∧ y = .str j ∧ i.length + j.length ≤ sizeLine ∧ Q (.str (i ++ j)) H) ∨ rCatF K x y H Q ∨ rCat x y H Q
theorem op_addU : OpR X (binaryOp .Add) (rAddU X.K) := OpR.or op_add (OpR.or op_add_str (OpR.or op_catF op_cat))
/-- * -/
def rMulS : R2 := fun x y H Q => ∃ (z : Str) (n : Int), x = .str z ∧ y = .int n ∧ 0 ≤ n ∧ n ≤ 1000 ∧ z.length ≤ 1000 ∧ Q (.str (Txt.mul z n)) H
theorem op_mulS : OpR X (binaryOp .Mult) rMulS := by
  intro pins s σ H x y v u Q I rx ry h
  obtain ⟨z, n, rfl, rfl, h0, h1, h2, q⟩ := h
  obtain ⟨t, rfl⟩ := rx
  obtain ⟨t', rfl⟩ := ry
  refine PySem.SB.mul (x := z) (n := n) ⟨?_, ?_, ?_⟩ fun t'' k => ⟨.str _, H, I.tok k, ⟨_, rfl⟩, q⟩
  · have a : ¬ n < -(2 ^ 63 : Int) := by omega
    have b : ¬ n ≥ 2 ^ 63 := by omega
    rw [decide_eq_false a, decide_eq_false b]; rfl
  · intro h3 _
    have : (1000 : Int) ≤ (2 ^ 63 - 1) / n := by
      rw [Int.le_ediv_iff_mul_le (by omega)]
      have : (1000 : Int) * n ≤ 1000 * 1000 := Int.mul_le_mul_of_nonneg_left h1 (by decide)
      omega
    omega
  · intro h3 _
    have hh : z.length * n.toNat ≤ 1000 * 1000 := Nat.mul_le_mul h2 (by omega)
    have : z.length * n.toNat ≤ sizeLine := Nat.le_trans hh (by decide)
    unfold PySem.Builtin.Str.tooLong
    rw [decide_eq_false]; omega
def rMulU : R2 := fun x y H Q => rI CMul (fun i j => .int (i * j)) x y H Q ∨ rI CMulW (fun i j => .int (i * j)) x y H Q ∨ rMulS x y H Q ∨ rRep x y H Q
theorem op_mulU : OpR X (binaryOp .Mult) rMulU := OpR.or op_mul (OpR.or op_mulW (OpR.or op_mulS op_rep))
/-- // -/
def rDivU : R2 := fun x y H Q => rI CDiv (fun i j => .int (i / j)) x y H Q ∨ rI CDivW (fun i j => .int (i / j)) x y H Q
theorem op_divU : OpR X (binaryOp .FloorDiv) rDivU := OpR.or op_fdiv op_fdivW
/-- in -/
def rInU (g : Bool → Bool) : R2 := fun x y H Q => (∃ (c : Nat) (z : Str), x = .str ⟨#[c]⟩ ∧ y = .str z ∧ Q (.bl (g (decide (c ∈ z.cps.toList)))) H) ∨
  (∃ d ds, Dq H x d ∧ (Dq H y (.list ds) ∨ Dq H y (.tuple ds)) ∧ min (PyData.depthAll ds) d.depth ≤ 60 ∧ Q (.bl (g (ds.any fun z => PyData.eqv z d))) H) ∨
  (∃ a o, y = .ref a ∧ DGet H a x o ∧ Q (.bl (g o.isSome)) H)
theorem op_inU (hu : X.A.units + 64 < cLine) : OpR X (compareOp .In) (rInU id) := by
  intro pins s σ H x y v u Q I rx ry h
  rcases h with h | ⟨d, e, hd, he, hb, q⟩ | ⟨a, o, rfl, g, q⟩
  · exact op_in_sign pins s σ H x y v u Q I rx ry h
  · obtain ⟨as, r1⟩ := rd_q I hd rx
    rcases he with he | he
    · obtain ⟨bs, r2⟩ := rd_q I he ry
      exact SeqAt.in_list_data r2 r1 (dq_plain (.list e) _ he) (dq_plain _ _ hd) (by omega) ⟨.bl _, H, I, rfl, q⟩
    · obtain ⟨bs, r2⟩ := rd_q I he ry
      exact SeqAt.in_tuple_data r2 r1 (dq_plain (.tuple e) _ he) (dq_plain _ _ hd) (by omega) ⟨.bl _, H, I, rfl, q⟩
  · cases ry
    exact d_in (by omega) I g rx fun s' I' => ⟨.bl _, H, I', rfl, q⟩
theorem op_notInU (hu : X.A.units + 64 < cLine) : OpR X (compareOp .NotIn) (rInU Bool.not) := by
  intro pins s σ H x y v u Q I rx ry h
  rcases h with h | ⟨d, e, hd, he, hb, q⟩ | ⟨a, o, rfl, g, q⟩
  · exact op_notIn_sign pins s σ H x y v u Q I rx ry h
  · obtain ⟨as, r1⟩ := rd_q I hd rx
    rcases he with he | he
    · obtain ⟨bs, r2⟩ := rd_q I he ry
      exact SeqAt.notIn_list_data r2 r1 (dq_plain (.list e) _ he) (dq_plain _ _ hd) (by omega) ⟨.bl _, H, I, rfl, q⟩
    · obtain ⟨bs, r2⟩ := rd_q I he ry
      exact SeqAt.notIn_tuple_data r2 r1 (dq_plain (.tuple e) _ he) (dq_plain _ _ hd) (by omega) ⟨.bl _, H, I, rfl, q⟩
  · cases ry
    exact d_notIn (by omega) I g rx fun s' I' => ⟨.bl _, H, I', rfl, q⟩
/-- is True, is False, is None and their contraries -/
def rIsU (g : Bool → Bool) : R2 := fun x y H Q => (y = .non ∧ Q (.bl (g (decide (x = .non)))) H) ∨ (∃ a b, x = .bl a ∧ y = .bl b ∧ Q (.bl (g (decide (a = b)))) H)
theorem op_isU : OpR X (compareOp .Is) (rIsU id) := OpR.or op_isN op_is_bl
theorem op_isNotU : OpR X (compareOp .IsNot) (rIsU Bool.not) := OpR.or op_notN op_isnot_bl

/-! ### subscripts, slices -/
def tSub (K : PySem.W.Frag) (ta tb : TE) : TE := fun σ H Q => tOp (rIx K) ta tb σ H Q ∨ tDGet ta tb σ H Q
theorem pe_sub {a b : Expr} {ta tb : TE} {pos : Pos} (hu : X.A.units + 64 < cLine) (ha : PE X a ta) (hb : PE X b tb) (hs : PlainIx b) : PE X (.Subscript a b pos) (tSub X.K ta tb) := by
  refine ⟨fun pins s σ H Q I h => ?_⟩
  rcases h with h | h
  · exact (pe_ix ix_seq ha hb hs).run pins s σ H Q I h
  · exact (pe_dget (by omega) ha hb hs).run pins s σ H Q I h
def rSlU (K : PySem.W.Frag) : V → Option Int → Option Int → Hp → VK → Prop := fun x lo hi H Q => rSlL K x lo hi H Q ∨ rSlS x lo hi H Q ∨ rSlF K x lo hi H Q
theorem sl_U : SlR X (rSlU X.K) := SlR.or sl_list (SlR.or sl_str sl_tupF)

/-! ### built-ins -/
def rIsaQ : List V → Hp → VK → Prop := fun xs H Q => ∃ x d, Dq H x d ∧ ((xs = [x, .ty "str"] ∧ Q (.bl d.isStr) H) ∨ (xs = [x, .ty "tuple"] ∧ Q (.bl d.isTuple) H) ∨ (xs = [x, .ty "list"] ∧ Q (.bl d.isList) H))
theorem call_isaQ : CallR X (.builtin "isinstance") rIsaQ := by
  intro pins s σ H xs us Q I r h
  obtain ⟨x, d, hd, h⟩ := h
  rcases h with ⟨rfl, q⟩ | ⟨rfl, q⟩ | ⟨rfl, q⟩
  · obtain ⟨u, w, rfl, r1, r2⟩ := vals2 r
    obtain rfl : w = Value.type "str" := r2
    obtain ⟨as, r1⟩ := rd_q I hd r1
    exact PySem.W.isinstance_str_data r1 fun tk _ => ⟨.bl _, H, I.tok tk, rfl, q⟩
  · obtain ⟨u, w, rfl, r1, r2⟩ := vals2 r
    obtain rfl : w = Value.type "tuple" := r2
    obtain ⟨as, r1⟩ := rd_q I hd r1
    exact PySem.W.isinstance_tuple_data r1 fun tk _ => ⟨.bl _, H, I.tok tk, rfl, q⟩
  · obtain ⟨u, w, rfl, r1, r2⟩ := vals2 r
    obtain rfl : w = Value.type "list" := r2
    obtain ⟨as, r1⟩ := rd_q I hd r1
    exact PySem.W.isinstance_list_data r1 fun tk _ => ⟨.bl _, H, I.tok tk, rfl, q⟩
/-- len -/
def rLenU (K : PySem.W.Frag) : List V → Hp → VK → Prop := fun xs H Q => (∃ x n, xs = [x] ∧ LenV K x H n ∧ Q (.int n) H) ∨ ∃ a kvs, xs = [.ref a] ∧ H a = some (.dK kvs) ∧ Q (.int kvs.length) H
theorem call_lenU : CallR X (.builtin "len") (rLenU X.K) := by
  intro pins s σ H xs us Q I r h
  rcases h with h | ⟨a, kvs, rfl, e, q⟩
  · exact call_len pins s σ H xs us Q I r h
  · obtain ⟨u, rfl, r1⟩ := vals1 r
    cases r1
    exact d_len I (Rd.of e) fun t s' I' => ⟨.int _, H, I', ⟨t, rfl⟩, q⟩
/-- dict(t) of a tuple, a list of pairs -/
theorem refs_back : ∀ {ps : List Addr} {us : List Value}, Vals (ps.map V.ref) us → us = ps.map Value.ref
  | [], _, .nil => rfl
  | p :: ps, _, .cons r t => by
    obtain rfl : _ = Value.ref p := r
    rw [refs_back t]; rfl
/-- what dict() takes: a list of pairs, a tuple of pairs -/
def PairsV (K : PySem.W.Frag) (H : Hp) : List V → List (Key × V) → Prop := Paired fun v kv => ∃ p, v = .ref p ∧ SqT K H p [kV kv.1, kv.2]
def rDictP (K : PySem.W.Frag) : List V → Hp → VK → Prop := fun xs H Q => ∃ (a : Addr) (vs : List V) (kvs : List (Key × V)), xs = [.ref a] ∧ (SqL K H a vs ∨ ∃ o, H a = some (.frz o (.tup vs)) ∧ o.dict = none) ∧ PairsV K H vs kvs ∧ ∀ p, H p = none → Q (.ref p) (upd H p (.dK (mergeK [] kvs)))
theorem pairs_raw {pins : List (Addr × Obj)} {σ : L2.St} {H : Hp} {s : Shared} (I : Inv X pins σ H s) : ∀ {vs : List V} {kvs : List (Key × V)}, PairsV X.K H vs kvs →
    ∃ (ps : List Addr) (prs : List (Key × Value)) (raw : List (Value × Value)), vs = ps.map V.ref ∧ KV kvs prs ∧ ps.length = prs.length ∧ raw.length = prs.length ∧ Paired (fun (p : Addr) (kv : Key × V) => SqT X.K H p [kV kv.1, kv.2]) ps kvs ∧
      ∀ (j : Nat) (u v : Value), raw[j]? = some (u, v) → ∃ (p : Addr) (k : Key), ps[j]? = some p ∧ prs[j]? = some (k, v) ∧ keyIs k u = true ∧ s.heap.IsTuple p #[u, v]
  | _, _, .nil => ⟨[], [], [], rfl, .nil, rfl, rfl, .nil, fun j k v e => by simp at e⟩
  | _ :: _, (k, v) :: kvs, .cons ⟨p, e, h⟩ t => by
    obtain ⟨ps, prs, raw, h0, h1, h2, hr, hp, h3⟩ := pairs_raw I t
    obtain ⟨its, rv, it, _⟩ := I.tuple h
    obtain ⟨u, w, rfl, ru, rw'⟩ := vals2 rv
    refine ⟨p :: ps, (k, w) :: prs, (u, w) :: raw, by rw [e, h0]; rfl, .cons ⟨rfl, rw'⟩ h1, by rw [List.length_cons, List.length_cons, h2], by rw [List.length_cons, List.length_cons, hr], .cons h hp, fun j k' v' e => ?_⟩
    cases j with
    | zero =>
      simp only [List.getElem?_cons_zero, Option.some.injEq, Prod.mk.injEq] at e
      obtain ⟨rfl, rfl⟩ := e
      exact ⟨p, k, rfl, rfl, kV_is (P := X.prog) (w := X.w) ru, it⟩
    | succ j =>
      rw [List.getElem?_cons_succ] at e
      obtain ⟨p', u', e1, e2, e3⟩ := h3 j k' v' e
      exact ⟨p', u', by rw [List.getElem?_cons_succ]; exact e1, by rw [List.getElem?_cons_succ]; exact e2, e3⟩
theorem call_dictPT (hc : X.calm = true) : CallR X (.type "dict") (rDictP X.K) := by
  intro pins s σ H xs us Q I r h
  obtain ⟨a, vs, kvs, rfl, hq, hp, q⟩ := h
  obtain ⟨ps, prs, raw, rfl, rel, hl, hrl, hpp, hpr⟩ := pairs_raw I hp
  rcases hq with hq | ⟨o, ho, hod⟩
  · exact call_dictP hc pins s σ H _ us Q I r ⟨a, ps, kvs, rfl, hq, hpp, q⟩
  · obtain ⟨u, rfl, rx⟩ := vals1 r
    cases rx
    obtain ⟨eo, hz, its, rv, ob, eob, hcl, n, hdat⟩ := I.hok a _ ho
    have e1 : ob = o := Option.some.inj (eob.symm.trans eo)
    subst e1
    have ei := refs_back rv
    subst ei
    rw [List.length_map] at hz
    have hget : ∀ (j : Nat) (u v : Value), raw[j]? = some (u, v) → ps[j]? = some (ps.getD j 0) ∧ s.heap.IsTuple (ps.getD j 0) #[u, v] := fun j u v e => by
      obtain ⟨p, k, e1, e2, e3, e4⟩ := hpr j u v e
      have : ps.getD j 0 = p := by rw [List.getD_eq_getElem?_getD, e1]; rfl
      rw [this]; exact ⟨e1, e4⟩
    refine PySem.call_dict_pairs (knd := mixKind X.prog X.w) (kvs := prs) (PairArg.tuple a (ps.map Value.ref).toArray (fun j => ps.getD j 0) raw) (I.ok.hd hc) ⟨⟨ob, n, eo, hcl, hod, hdat⟩, by rw [List.size_toArray, List.length_map, hl, hrl], fun j k v e => ⟨by
        have q1 := (hget j k v e).1
        rw [List.getElem?_toArray, List.getElem?_map, q1]; rfl, .inl (hget j k v e).2⟩⟩ ⟨hrl.symm, fun i key v e => ?_⟩ (by omega) fun h' tk hd' k => ?_
    · obtain ⟨p, k, e1, e2, e3, e4⟩ := hpr i key v e
      exact ⟨k, e2, e3⟩
    · have hm : (s.heap.objs.size == sysModules) = false := beq_eq_false_iff_ne.mpr (Nat.ne_of_gt I.big)
      have hlen : (mergeK [] kvs).length ≤ sizeLine := by
        refine Nat.le_trans (length_mergeK kvs []) ?_
        rw [List.length_nil, Nat.zero_add, rel.length, ← hl]
        exact hz
      exact ⟨.ref s.heap.objs.size, upd H s.heap.objs.size (.dK (mergeK [] kvs)), I.laid (t' := tk) (fun b o e => k b o (by simp) e) (Nat.le_refl _) (show ObjOk X.prog X.w _ _ _ (.dK (mergeK [] kvs)) from ⟨hlen, hm, merged [] prs, KV.merge rel .nil, hd'⟩), rfl, q _ (I.hok.fresh (Nat.le_refl _))⟩
end
end TD
set_option Elab.async false
set_option linter.all false
set_option maxRecDepth 100000
set_option maxHeartbeats 400000
/-! What operators and calls give, over data. -/
namespace TD
open PySem PySem.Spec PyProof.Rows L2

section
variable {c : Cz} {H : Hp}
/-- a new list, a new tuple is data -/
theorem new_lst {M : List Addr} {H : Hp} {p : Addr} {vs : List V} {xs : List D} (lv : Live M H) (hp : H p = none) (h : DqAll (hid M H) vs xs) : Dq (hid M (upd H p (.lst vs))) (.ref p) (.list xs) :=
  .lst (by rw [hid_upd_out (lv.new hp)]; exact upd_same) (dqAll_mono (Same.hid (same_new hp _)) _ _ h)
theorem new_tup {M : List Addr} {H : Hp} {p : Addr} {o : Obj} {vs : List V} {xs : List D} (lv : Live M H) (hp : H p = none) (ho : o.dict = none) (h : DqAll (hid M H) vs xs) : Dq (hid M (upd H p (.frz o (.tup vs)))) (.ref p) (.tuple xs) :=
  .tup (by rw [hid_upd_out (lv.new hp)]; exact upd_same) ho (dqAll_mono (Same.hid (same_new hp _)) _ _ h)
theorem sqL_of {K : PySem.W.Frag} {M : List Addr} {H : Hp} {a : Addr} {xs : List V} (h : hid M H a = some (.lst xs)) : SqL K H a xs := .inl (.inl (hid_some h).2)
theorem sqT_of {K : PySem.W.Frag} {M : List Addr} {H : Hp} {a : Addr} {o : Obj} {xs : List V} (h : hid M H a = some (.frz o (.tup xs))) : SqT K H a xs := .inl (.inr ⟨o, (hid_some h).2⟩)
mutual
theorem dq_up {M : List Addr} {H : Hp} : ∀ (d : D) (v : V), Dq (hid M H) v d → Dq H v d
  | d, v, h => dq_mono hid_le d v h
end
theorem newT_q {xs : List V} {ds' : List D} {M : List Addr} {H : Hp} {Q : VK} (lv : Live M H) (h : DqAll (hid M H) xs ds') (q : ∀ w H2, Same H H2 → Dq (hid M H2) w (.tuple ds') → Q w H2) : NewT xs H Q :=
  fun p o hp ho => q _ _ (same_new hp _) (new_tup lv hp ho h)

/-! ### + - * // % ** -/
variable {K : PySem.W.Frag}
theorem rx_I0 {g : Int → Int → Int} {i j : Int} : RX c (rI0 fun i j => .int (g i j)) (.d (.int i)) (.d (.int j)) (.d (.int (g i j))) := fun H1 _ _ u v hu hv Q q => ⟨i, j, dq_int hu, dq_int hv, q _ H1 (Same.refl _) (Dq.int _)⟩
theorem rx_B0 {g : Int → Int → Bool} {i j : Int} : RX c (rI0 fun i j => .bl (g i j)) (.d (.int i)) (.d (.int j)) (.d (.bool (g i j))) := fun H1 _ _ u v hu hv Q q => ⟨i, j, dq_int hu, dq_int hv, q _ H1 (Same.refl _) (Dq.bl _)⟩
theorem rx_I {C : Int → Int → Prop} {g : Int → Int → Int} {i j : Int} (h : C i j) : RX c (rI C fun i j => .int (g i j)) (.d (.int i)) (.d (.int j)) (.d (.int (g i j))) := fun H1 _ _ u v hu hv Q q => ⟨i, j, dq_int hu, dq_int hv, h, q _ H1 (Same.refl _) (Dq.int _)⟩
theorem rx_addI {i j : Int} : RX c (rAddU K) (.d (.int i)) (.d (.int j)) (.d (.int (i + j))) := fun H1 g l u v hu hv Q q => .inl (rx_I0 (c := c) (g := fun i j => i + j) H1 g l u v hu hv Q q)
theorem rx_addS {a b : List Nat} (h : a.length + b.length ≤ 1000000) : RX c (rAddU K) (.d (ds a)) (.d (ds b)) (.d (ds (a ++ b))) := fun H1 g l u v hu hv Q q =>
  .inr (.inl ⟨sw a, sw b, dq_str hu, dq_str hv, by rw [sw_len, sw_len]; exact Nat.le_trans h (by decide), by rw [sw_app]; exact q _ H1 (Same.refl _) (Dq.str _)⟩)
theorem rx_addT {xs ys : List D} (h : xs.length + ys.length ≤ 1000000) : RX c (rAddU c.K) (.d (.tuple xs)) (.d (.tuple ys)) (.d (.tuple (xs ++ ys))) := fun H1 g l u v hu hv Q q => by
  obtain ⟨a, oa, vs, rfl, ha, ha0, hva⟩ := dq_tuple hu
  obtain ⟨b, ob, ws, rfl, hb, hb0, hvb⟩ := dq_tuple hv
  refine .inr (.inr (.inl ⟨a, b, vs, ws, rfl, rfl, sqT_of ha, sqT_of hb, by rw [dqAll_len hva, dqAll_len hvb]; exact Nat.le_trans h (by decide), fun e => ?_, fun _ e => ?_, fun _ _ => ?_⟩))
  · subst e; cases hva; exact q _ H1 (Same.refl _) hv
  · subst e; cases hvb; rw [List.append_nil] at q; exact q _ H1 (Same.refl _) hu
  · exact newT_q l (dqAll_app hva hvb) q
theorem rx_addL {xs ys : List D} (h : xs.length + ys.length ≤ 1000000) : RX c (rAddU c.K) (.d (.list xs)) (.d (.list ys)) (.d (.list (xs ++ ys))) := fun H1 g l u v hu hv Q q => by
  obtain ⟨a, vs, rfl, ha, hva⟩ := dq_list hu
  obtain ⟨b, ws, rfl, hb, hvb⟩ := dq_list hv
  exact .inr (.inr (.inr ⟨a, b, vs, ws, rfl, rfl, (hid_some ha).2, (hid_some hb).2, by rw [dqAll_len hva, dqAll_len hvb]; exact Nat.le_trans h (by decide), fun p hp => q _ _ (same_new hp _) (new_lst l hp (dqAll_app hva hvb))⟩))
theorem rx_mulI {i j : Int} (h : CMul i j) : RX c rMulU (.d (.int i)) (.d (.int j)) (.d (.int (i * j))) := fun H1 g l u v hu hv Q q => .inl (rx_I (c := c) (g := fun i j => i * j) h H1 g l u v hu hv Q q)
theorem rx_mulW {i j : Int} (h : CMulW i j) : RX c rMulU (.d (.int i)) (.d (.int j)) (.d (.int (i * j))) := fun H1 g l u v hu hv Q q => .inr (.inl (rx_I (c := c) (g := fun i j => i * j) h H1 g l u v hu hv Q q))
/-- s * n -/
theorem foldl_cat (z : Array Nat) : ∀ (n : Nat) (a : Array Nat), ((List.replicate n z).foldl (· ++ ·) a).toList = a.toList ++ (List.replicate n z.toList).flatten
  | 0, a => by simp
  | n + 1, a => by
    rw [List.replicate_succ, List.foldl_cons, foldl_cat z n, List.replicate_succ, List.flatten_cons, Array.toList_append, List.append_assoc]
theorem mul_sw (a : List Nat) (n : Nat) : Txt.mul (sw a) (n : Int) = sw (List.replicate n a).flatten := by
  apply TL.ext_tl
  show tl _ = tl _
  rw [tl_sw]
  unfold Txt.mul
  split
  · rename_i h
    have : n = 0 := by omega
    subst this; rfl
  · split
    · rename_i h1 h2
      rcases Bool.or_eq_true _ _ |>.mp h2 with h | h
      · have : n = 1 := by have := eq_of_beq h; omega
        subst this; simp
      · have : a = [] := by
          have h := eq_of_beq h
          rw [sw_len] at h
          exact List.eq_nil_of_length_eq_zero h
        subst this; simp
    · show ((List.replicate (n : Int).toNat (sw a).cps).foldl (· ++ ·) #[]).toList = _
      rw [foldl_cat]
      simp
theorem rx_mulS {a : List Nat} {n : Nat} (h : n ≤ 1000) (h2 : a.length ≤ 1000) : RX c rMulU (.d (ds a)) (.d (.int n)) (.d (ds (List.replicate n a).flatten)) := fun H1 g l u v hu hv Q q =>
  .inr (.inr (.inl ⟨sw a, n, dq_str hu, dq_int hv, by omega, by omega, by rw [sw_len]; exact h2, by rw [mul_sw]; exact q _ H1 (Same.refl _) (Dq.str _)⟩))
theorem dqAll_rep {H : Hp} {vs : List V} {xs : List D} (h : DqAll H vs xs) : ∀ n : Nat, DqAll H (List.replicate n vs).flatten (List.replicate n xs).flatten
  | 0 => .nil
  | n + 1 => by rw [List.replicate_succ, List.replicate_succ, List.flatten_cons, List.flatten_cons]; exact dqAll_app h (dqAll_rep h n)
theorem rx_mulL {xs : List D} {n : Nat} (h : n ≤ 1000) (h2 : xs.length ≤ 1000) : RX c rMulU (.d (.list xs)) (.d (.int n)) (.d (.list (List.replicate n xs).flatten)) := fun H1 g l u v hu hv Q q => by
  obtain ⟨a, vs, rfl, ha, hva⟩ := dq_list hu
  exact .inr (.inr (.inr ⟨a, n, vs, rfl, dq_int hv, (hid_some ha).2, by omega, by omega, by
    rw [dqAll_len hva]
    have : xs.length * (n : Int).toNat ≤ 1000 * 1000 := Nat.mul_le_mul h2 (by omega)
    exact Nat.le_trans this (by decide), fun p hp => q _ _ (same_new hp _) (new_lst l hp (by have := dqAll_rep hva n; simpa using this))⟩))
theorem rx_divI {i j : Int} (h : CDiv i j) : RX c rDivU (.d (.int i)) (.d (.int j)) (.d (.int (i / j))) := fun H1 g l u v hu hv Q q => .inl (rx_I (c := c) (g := fun i j => i / j) h H1 g l u v hu hv Q q)
/-! ### comparisons -/
theorem rx_eq {d e : D} (h : min d.depth e.depth ≤ 60) : RX c rEqQ (.d d) (.d e) (.d (.bool (PyData.eqv d e))) := fun H1 _ _ u v hu hv Q q => ⟨d, e, dq_up _ _ hu, dq_up _ _ hv, h, q _ H1 (Same.refl _) (Dq.bl _)⟩
theorem rx_ne {d e : D} (h : min d.depth e.depth ≤ 60) : RX c rNeQ (.d d) (.d e) (.d (.bool (!PyData.eqv d e))) := fun H1 _ _ u v hu hv Q q => ⟨d, e, dq_up _ _ hu, dq_up _ _ hv, h, q _ H1 (Same.refl _) (Dq.bl _)⟩
theorem rx_ltI {i j : Int} : RX c rLtU (.d (.int i)) (.d (.int j)) (.d (.bool (decide (i < j)))) := fun H1 g l u v hu hv Q q => .inl (rx_B0 (c := c) (g := fun i j => decide (i < j)) H1 g l u v hu hv Q q)
theorem rx_gtI {i j : Int} : RX c rGtU (.d (.int i)) (.d (.int j)) (.d (.bool (decide (j < i)))) := fun H1 g l u v hu hv Q q => .inl (rx_B0 (c := c) (g := fun i j => decide (j < i)) H1 g l u v hu hv Q q)
theorem rx_ltS {a b : List Nat} : RX c rLtU (.d (ds a)) (.d (ds b)) (.d (.bool (decide (a < b)))) := fun H1 g l u v hu hv Q q =>
  .inr ⟨ds a, ds b, dq_up _ _ hu, dq_up _ _ hv, rfl, (by intro h; cases h), by show min 0 0 ≤ 60; decide, by
    have e : PySem.W.dataLt (ds a) (ds b) = decide (a < b) := by rw [PySem.W.dataLt_str]
    rw [e]; exact q _ H1 (Same.refl _) (Dq.bl _)⟩
theorem rx_gtT {d e : D} (ha : PySem.W.alike d e = true) (hn : d ≠ .none) (h : min d.depth e.depth ≤ 60) : RX c rGtU (.d d) (.d e) (.d (.bool (PySem.W.dataLt e d))) := fun H1 g l u v hu hv Q q =>
  .inr ⟨d, e, dq_up _ _ hu, dq_up _ _ hv, ha, hn, h, q _ H1 (Same.refl _) (Dq.bl _)⟩
/-! ### in -/
def kget (kvs : List (Key × D)) (k : Key) : Option D := (kvs.find? fun kv => decide (kv.1 = k)).map (·.2)
theorem kd_get {H : Hp} {kv : List (Key × V)} {kvs : List (Key × D)} (h : KD H kv kvs) (k : Key) : (∃ v d, valV kv k = some v ∧ kget kvs k = some d ∧ Dq H v d) ∨ (valV kv k = none ∧ kget kvs k = none) := by
  induction h with
  | nil => exact .inr ⟨rfl, rfl⟩
  | @cons p q r s hh t ih =>
    obtain ⟨h1, h2⟩ := hh
    by_cases e : p.1 = k
    · refine .inl ⟨p.2, q.2, valV_pos e, ?_, h2⟩
      unfold kget
      rw [List.find?_cons_of_pos (by simp [← h1, e])]; rfl
    · have e' : ¬ q.1 = k := by rw [← h1]; exact e
      have w1 : valV (p :: r) k = valV r k := valV_neg e
      have w2 : kget (q :: s) k = kget s k := by
        unfold kget
        rw [List.find?_cons_of_neg (by simp [e'])]
      rw [w1, w2]; exact ih
theorem rx_inStr {g : Bool → Bool} {a : Nat} {l : List Nat} : RX c (rInU g) (.d (ds [a])) (.d (ds l)) (.d (.bool (g (decide (a ∈ l))))) := fun H1 _ _ u v hu hv Q q =>
  .inl ⟨a, sw l, dq_str hu, dq_str hv, by
    have e : (sw l).cps.toList = l := tl_sw l
    rw [e]; exact q _ H1 (Same.refl _) (Dq.bl _)⟩
theorem rx_inList {g : Bool → Bool} {d : D} {xs : List D} (h : min (PyData.depthAll xs) d.depth ≤ 60) : RX c (rInU g) (.d d) (.d (.list xs)) (.d (.bool (g (xs.any fun z => PyData.eqv z d)))) := fun H1 _ _ u v hu hv Q q =>
  .inr (.inl ⟨d, xs, dq_up _ _ hu, .inl (dq_up _ _ hv), h, q _ H1 (Same.refl _) (Dq.bl _)⟩)
theorem rx_inTup {g : Bool → Bool} {d : D} {xs : List D} (h : min (PyData.depthAll xs) d.depth ≤ 60) : RX c (rInU g) (.d d) (.d (.tuple xs)) (.d (.bool (g (xs.any fun z => PyData.eqv z d)))) := fun H1 _ _ u v hu hv Q q =>
  .inr (.inl ⟨d, xs, dq_up _ _ hu, .inr (dq_up _ _ hv), h, q _ H1 (Same.refl _) (Dq.bl _)⟩)
theorem rx_inDict {g : Bool → Bool} {x : Str} {kvs : List (Key × D)} : RX c (rInU g) (.d (.str x)) (.k kvs) (.d (.bool (g (kget kvs (.inr x)).isSome))) := fun H1 _ _ u v hu hv Q q => by
  obtain ⟨a, kv, rfl, ha, hk⟩ := hv
  obtain rfl := dq_str hu
  refine .inr (.inr ⟨a, valV kv (.inr x), rfl, DGet.k (k := Sum.inr x) (hid_some ha).2, ?_⟩)
  have e : (valV kv (.inr x)).isSome = (kget kvs (.inr x)).isSome := by
    rcases kd_get hk (.inr x) with ⟨v, d, e1, e2, _⟩ | ⟨e1, e2⟩ <;> rw [e1, e2] <;> rfl
  rw [e]; exact q _ H1 (Same.refl _) (Dq.bl _)
def isNon : D → Bool
  | .none => true
  | _ => false
theorem rx_isNon {g : Bool → Bool} {d : D} : RX c (rIsU g) (.d d) (.d .none) (.d (.bool (g (isNon d)))) := fun H1 _ _ u v hu hv Q q => by
  refine .inl ⟨dq_none hv, ?_⟩
  have hu' : Dq (c.hid H1) u d := hu
  have e : decide (u = V.non) = isNon d := by cases hu' <;> rfl
  rw [e]; exact q _ H1 (Same.refl _) (Dq.bl _)
theorem rx_isBl {g : Bool → Bool} {a b : Bool} : RX c (rIsU g) (.d (.bool a)) (.d (.bool b)) (.d (.bool (g (decide (a = b))))) := fun H1 _ _ u v hu hv Q q =>
  .inr ⟨a, b, dq_bool hu, dq_bool hv, q _ H1 (Same.refl _) (Dq.bl _)⟩

/-! ### subscripts and slices -/
theorem dqAll_atI {H : Hp} {vs : List V} {xs : List D} {i : Int} {d : D} (h : DqAll H vs xs) (e : atI xs i = some d) : ∃ v, atI vs i = some v ∧ Dq H v d := by
  unfold atI at *
  rw [dqAll_len h]
  cases q : ixN xs.length i with
  | none => rw [q] at e; cases e
  | some j =>
    rw [q] at e
    exact dqAll_getD h e
theorem ev_subL {ta tb : TE} {ρ : List DV} {xs : List D} {i : Int} {y : D} (ha : EvX c ta ρ (.d (.list xs))) (hb : EvX c tb ρ (.d (.int i))) (e : atI xs i = some y) : EvX c (tSub K ta tb) ρ (.d y) := fun H1 σ a Q q =>
  .inl (ha H1 σ a _ fun u H2 s2 o2 => hb H2 σ (a.same s2) _ fun v H3 s3 o3 => by
    obtain ⟨p, vs, rfl, hp, hv⟩ := dq_list o2
    obtain ⟨w, e1, e2⟩ := dqAll_atI hv e
    have s3' := Same.hid (M := c.M) s3
    exact .inl ⟨p, vs, i, w, rfl, dq_int o3, sqL_of (s3' _ _ hp), e1, q w H3 (s2.trans s3) (dq_mono s3' _ _ e2)⟩)
theorem ev_subT {ta tb : TE} {ρ : List DV} {xs : List D} {i : Int} {y : D} (ha : EvX c ta ρ (.d (.tuple xs))) (hb : EvX c tb ρ (.d (.int i))) (e : atI xs i = some y) : EvX c (tSub K ta tb) ρ (.d y) := fun H1 σ a Q q =>
  .inl (ha H1 σ a _ fun u H2 s2 o2 => hb H2 σ (a.same s2) _ fun v H3 s3 o3 => by
    obtain ⟨p, o, vs, rfl, hp, _, hv⟩ := dq_tuple o2
    obtain ⟨w, e1, e2⟩ := dqAll_atI hv e
    have s3' := Same.hid (M := c.M) s3
    exact .inr (.inl ⟨p, vs, i, w, rfl, dq_int o3, sqT_of (s3' _ _ hp), e1, q w H3 (s2.trans s3) (dq_mono s3' _ _ e2)⟩))
theorem ev_subSc {ta tb : TE} {ρ : List DV} {ns : List Int} {i : Int} {n : Int} (ha : EvX c ta ρ (.s ns)) (hb : EvX c tb ρ (.d (.int i))) (e : atI ns i = some n) : EvX c (tSub c.K ta tb) ρ (.d (.int n)) := fun H1 σ a Q q =>
  .inl (ha H1 σ a _ fun u H2 s2 o2 => hb H2 σ (a.same s2) _ fun v H3 s3 o3 => by
    obtain ⟨p, rfl, hp⟩ := o2
    have e1 : atI (ns.map V.int) i = some (.int n) := by
      unfold atI at *
      rw [List.length_map]
      cases h : ixN ns.length i with
      | none => rw [h] at e; cases e
      | some j =>
        rw [h] at e
        have e' : ns[j]? = some n := e
        show (ns.map V.int)[j]? = _
        rw [List.getElem?_map, e']; rfl
    exact .inl ⟨p, _, i, _, rfl, dq_int o3, L2.Same.seq (s3.trans (Same.refl _)) (L2.Same.seq hid_le hp), e1, q _ H3 (s2.trans s3) (Dq.int n)⟩)
theorem ev_subS {ta tb : TE} {ρ : List DV} {l : List Nat} {i : Int} {n : Nat} (ha : EvX c ta ρ (.d (ds l))) (hb : EvX c tb ρ (.d (.int i))) (e : atI l i = some n) (hz : l.length ≤ 1000000) : EvX c (tSub K ta tb) ρ (.d (ds [n])) := fun H1 σ a Q q =>
  .inl (ha H1 σ a _ fun u H2 s2 o2 => hb H2 σ (a.same s2) _ fun v H3 s3 o3 =>
    .inr (.inr ⟨sw l, i, n, dq_str o2, dq_int o3, by rw [sw_len]; exact Nat.le_trans hz (by decide), by
      have e2 : (sw l).cps.toList = l := tl_sw l
      rw [e2]; exact e, q _ H3 (s2.trans s3) (Dq.str _)⟩))
theorem ev_subD {ta tb : TE} {ρ : List DV} {kvs : List (Key × D)} {x : Str} {y : D} (ha : EvX c ta ρ (.k kvs)) (hb : EvX c tb ρ (.d (.str x))) (e : kget kvs (.inr x) = some y) : EvX c (tSub K ta tb) ρ (.d y) := fun H1 σ a Q q =>
  .inr (ha H1 σ a _ fun u H2 s2 o2 => hb H2 σ (a.same s2) _ fun v H3 s3 o3 => by
    obtain ⟨p, kv, rfl, hp, hk⟩ := o2
    obtain rfl := dq_str o3
    have s3' := Same.hid (M := c.M) s3
    rcases kd_get hk (.inr x) with ⟨v, d, e1, e2, e3⟩ | ⟨e1, e2⟩
    · rw [e] at e2
      cases e2
      exact ⟨p, v, rfl, by
        have g := DGet.k (k := Sum.inr x) (hid_some (s3' _ _ hp)).2
        rw [e1] at g; exact g, q v H3 (s2.trans s3) (dq_mono s3' _ _ e3)⟩
    · rw [e] at e2; cases e2)
theorem ev_subDi {ta tb : TE} {ρ : List DV} {kvs : List (Key × D)} {x : Int} {y : D} (ha : EvX c ta ρ (.k kvs)) (hb : EvX c tb ρ (.d (.int x))) (e : kget kvs (.inl x) = some y) : EvX c (tSub K ta tb) ρ (.d y) := fun H1 σ a Q q =>
  .inr (ha H1 σ a _ fun u H2 s2 o2 => hb H2 σ (a.same s2) _ fun v H3 s3 o3 => by
    obtain ⟨p, kv, rfl, hp, hk⟩ := o2
    obtain rfl := dq_int o3
    have s3' := Same.hid (M := c.M) s3
    rcases kd_get hk (.inl x) with ⟨v, d, e1, e2, e3⟩ | ⟨e1, e2⟩
    · rw [e] at e2
      cases e2
      exact ⟨p, v, rfl, by
        have g := DGet.k (k := Sum.inl x) (hid_some (s3' _ _ hp)).2
        rw [e1] at g; exact g, q v H3 (s2.trans s3) (dq_mono s3' _ _ e3)⟩
    · rw [e] at e2; cases e2)
/-- xs[lo:hi] -/
def cutL {α : Type} (xs : List α) (lo hi : Option Int) : List α := (xs.drop (HT.sIx xs.length 0 lo)).take (HT.sIx xs.length xs.length hi - HT.sIx xs.length 0 lo)
theorem dqAll_cut {H : Hp} {vs : List V} {xs : List D} (h : DqAll H vs xs) (lo hi : Option Int) : DqAll H (cutV vs lo hi) (cutL xs lo hi) := by
  unfold cutV cutL
  rw [dqAll_len h]
  exact dqAll_take _ (dqAll_drop _ h)
theorem ev_slS {te : TE} {tl' th : TO} {ρ : List DV} {l : List Nat} {lo hi : Option Int} (h : EvX c te ρ (.d (ds l))) (h1 : EvO c tl' ρ lo) (h2 : EvO c th ρ hi) (hz : l.length ≤ 1000000) : EvX c (tSl (rSlU K) te tl' th) ρ (.d (ds (cutL l lo hi))) := fun H1 σ a Q q =>
  h H1 σ a _ fun v H2 s2 o2 => h1 H2 σ (a.same s2) _ fun H3 s3 => h2 H3 σ ((a.same s2).same s3) _ fun H4 s4 =>
    .inr (.inl ⟨sw l, dq_str o2, by rw [sw_len]; exact Nat.le_trans hz (by decide), by
      have e : cutS (sw l) lo hi = sw (cutL l lo hi) := by
        unfold cutS cutL
        rw [sw_len]
      rw [e]; exact q _ H4 (s2.trans (s3.trans s4)) (Dq.str _)⟩)
theorem ev_slL {te : TE} {tl' th : TO} {ρ : List DV} {xs : List D} {lo hi : Option Int} (h : EvX c te ρ (.d (.list xs))) (h1 : EvO c tl' ρ lo) (h2 : EvO c th ρ hi) : EvX c (tSl (rSlU K) te tl' th) ρ (.d (.list (cutL xs lo hi))) := fun H1 σ a Q q =>
  h H1 σ a _ fun v H2 s2 o2 => h1 H2 σ (a.same s2) _ fun H3 s3 => h2 H3 σ ((a.same s2).same s3) _ fun H4 s4 => by
    obtain ⟨p, vs, rfl, hp, hv⟩ := dq_list o2
    have s' := Same.hid (M := c.M) (s3.trans s4)
    exact .inl ⟨p, vs, rfl, sqL_of (s' _ _ hp), fun r hr => q _ _ (s2.trans ((s3.trans s4).trans (same_new hr _))) (new_lst (((a.same s2).same s3).same s4).lv hr (dqAll_cut (dqAll_mono s' _ _ hv) lo hi))⟩
theorem cut_whole {α : Type} {xs : List α} {lo hi : Option Int} (h : HT.sIx xs.length 0 lo = 0 ∧ HT.sIx xs.length xs.length hi = xs.length) : cutL xs lo hi = xs := by
  unfold cutL
  rw [h.1, h.2]; simp
theorem ev_slT {te : TE} {tl' th : TO} {ρ : List DV} {xs : List D} {lo hi : Option Int} (h : EvX c te ρ (.d (.tuple xs))) (h1 : EvO c tl' ρ lo) (h2 : EvO c th ρ hi) : EvX c (tSl (rSlU K) te tl' th) ρ (.d (.tuple (cutL xs lo hi))) := fun H1 σ a Q q =>
  h H1 σ a _ fun v H2 s2 o2 => h1 H2 σ (a.same s2) _ fun H3 s3 => h2 H3 σ ((a.same s2).same s3) _ fun H4 s4 => by
    obtain ⟨p, o, vs, rfl, hp, ho, hv⟩ := dq_tuple o2
    have s' := Same.hid (M := c.M) (s3.trans s4)
    refine .inr (.inr ⟨p, vs, rfl, sqT_of (s' _ _ hp), fun e => ?_, fun _ => newT_q (((a.same s2).same s3).same s4).lv (dqAll_cut (dqAll_mono s' _ _ hv) lo hi) fun w H5 s5 o5 => q w H5 (s2.trans ((s3.trans s4).trans s5)) o5⟩)
    rw [dqAll_len hv] at e
    rw [cut_whole e] at q
    exact q _ H4 (s2.trans (s3.trans s4)) (dq_mono s' _ _ o2)

/-! ### displays -/
theorem args_dq {H : Hp} {vs : List V} {xs : List D} (h : Args K H vs (xs.map DV.d)) : DqAll H vs xs := by
  induction xs generalizing vs with
  | nil => cases h; exact .nil
  | cons x xs ih => cases h with | cons h1 h2 => exact .cons h1 (ih h2)
theorem ev_tup {ta : TA} {ρ : List DV} {xs : List D} (h : EvA c ta ρ (xs.map DV.d)) (hz : xs.length ≤ 1000 := by decide) : EvX c (tTupF ta) ρ (.d (.tuple xs)) := fun H1 σ a Q q =>
  h H1 σ a _ fun vs H2 s2 o2 => by
    have hd := args_dq o2
    exact ⟨by rw [dqAll_len hd]; exact Nat.le_trans hz (by decide), newT_q (a.same s2).lv hd fun w H3 s3 o3 => q w H3 (s2.trans s3) o3⟩
theorem ev_lst {ta : TA} {ρ : List DV} {xs : List D} (h : EvA c ta ρ (xs.map DV.d)) (hz : xs.length ≤ 1000 := by decide) : EvX c (tLst ta) ρ (.d (.list xs)) := fun H1 σ a Q q =>
  h H1 σ a _ fun vs H2 s2 o2 => by
    have hd := args_dq o2
    exact ⟨by rw [dqAll_len hd]; exact Nat.le_trans hz (by decide), fun p hp => q _ _ (s2.trans (same_new hp _)) (new_lst (a.same s2).lv hp hd)⟩
end
end TD
set_option Elab.async false
set_option linter.all false
set_option maxRecDepth 100000
set_option maxHeartbeats 400000
/-! Calls, iterators, comprehensions, loops, over data. -/
namespace TD
open PySem PySem.Spec PyProof.Rows L2
section
variable {c : Cz} {K : PySem.W.Frag} {ρ : List DV}
/-! ### built-ins -/
theorem args1 {H : Hp} {vs : List V} {x : DV} (h : Args K H vs [x]) : ∃ v, vs = [v] ∧ VOk K H v x := by
  cases h with | cons a t => cases t; exact ⟨_, rfl, a⟩
theorem args2 {H : Hp} {vs : List V} {x y : DV} (h : Args K H vs [x, y]) : ∃ v w, vs = [v, w] ∧ VOk K H v x ∧ VOk K H w y := by
  cases h with | cons a t => cases t with | cons b t => cases t; exact ⟨_, _, rfl, a, b⟩
theorem rc_lenS {l : List Nat} (h : l.length ≤ 1000000) : RCX c (rLenU K) [.d (ds l)] (.d (.int l.length)) := fun H1 _ _ vs ha Q q => by
  obtain ⟨v, rfl, o⟩ := args1 ha
  obtain rfl := dq_str o
  exact .inl ⟨_, l.length, rfl, ⟨by rw [sw_len]; exact Nat.le_trans h (by decide), (sw_len l).symm⟩, q _ H1 (Same.refl _) (Dq.int _)⟩
theorem rc_lenL {xs : List D} : RCX c (rLenU K) [.d (.list xs)] (.d (.int xs.length)) := fun H1 _ _ vs ha Q q => by
  obtain ⟨v, rfl, o⟩ := args1 ha
  obtain ⟨a, ws, rfl, h1, h2⟩ := dq_list o
  exact .inl ⟨_, xs.length, rfl, .inl ⟨ws, sqL_of h1, (dqAll_len h2).symm⟩, q _ H1 (Same.refl _) (Dq.int _)⟩
theorem rc_lenT {xs : List D} : RCX c (rLenU K) [.d (.tuple xs)] (.d (.int xs.length)) := fun H1 _ _ vs ha Q q => by
  obtain ⟨v, rfl, o⟩ := args1 ha
  obtain ⟨a, ob, ws, rfl, h1, _, h2⟩ := dq_tuple o
  exact .inl ⟨_, xs.length, rfl, .inr ⟨ws, sqT_of h1, (dqAll_len h2).symm⟩, q _ H1 (Same.refl _) (Dq.int _)⟩
theorem rc_lenSc {ns : List Int} : RCX c (rLenU c.K) [.s ns] (.d (.int ns.length)) := fun H1 _ _ vs ha Q q => by
  obtain ⟨v, rfl, o⟩ := args1 ha
  obtain ⟨a, rfl, h1⟩ := o
  exact .inl ⟨_, ns.length, rfl, .inl ⟨_, L2.Same.seq hid_le h1, by rw [List.length_map]⟩, q _ H1 (Same.refl _) (Dq.int _)⟩
theorem rc_lenD {kvs : List (Key × D)} : RCX c (rLenU K) [.k kvs] (.d (.int kvs.length)) := fun H1 _ _ vs ha Q q => by
  obtain ⟨v, rfl, o⟩ := args1 ha
  obtain ⟨a, kv, rfl, h1, h2⟩ := o
  exact .inr ⟨a, kv, rfl, (hid_some h1).2, by rw [Paired.length h2]; exact q _ H1 (Same.refl _) (Dq.int _)⟩
theorem rc_isaS {x : D} : RCX c rIsaQ [.d x, .v (.ty "str")] (.d (.bool x.isStr)) := fun H1 _ _ vs ha Q q => by
  obtain ⟨v, w, rfl, o, rfl⟩ := args2 ha
  exact ⟨v, x, dq_up _ _ o, .inl ⟨rfl, q _ H1 (Same.refl _) (Dq.bl _)⟩⟩
theorem rc_isaT {x : D} : RCX c rIsaQ [.d x, .v (.ty "tuple")] (.d (.bool x.isTuple)) := fun H1 _ _ vs ha Q q => by
  obtain ⟨v, w, rfl, o, rfl⟩ := args2 ha
  exact ⟨v, x, dq_up _ _ o, .inr (.inl ⟨rfl, q _ H1 (Same.refl _) (Dq.bl _)⟩)⟩
theorem rc_isaL {x : D} : RCX c rIsaQ [.d x, .v (.ty "list")] (.d (.bool x.isList)) := fun H1 _ _ vs ha Q q => by
  obtain ⟨v, w, rfl, o, rfl⟩ := args2 ha
  exact ⟨v, x, dq_up _ _ o, .inr (.inr ⟨rfl, q _ H1 (Same.refl _) (Dq.bl _)⟩)⟩
theorem map_bools {α : Type} (g : α → Bool) (xs : List α) : (xs.map fun x => PyData.bool (g x)) = (xs.map g).map PyData.bool := by rw [List.map_map]; rfl
theorem rc_all {α : Type} {xs : List α} {g : α → Bool} : RCX c (rAll K) [.d (.list (xs.map fun x => .bool (g x)))] (.d (.bool (xs.all g))) := fun H1 _ _ vs ha Q q => by
  obtain ⟨v, rfl, o⟩ := args1 ha
  obtain ⟨a, ws, rfl, h1, h2⟩ := dq_list o
  rw [map_bools] at h2
  obtain rfl := dqAll_bools h2
  refine ⟨a, xs.map g, rfl, sqL_of h1, ?_⟩
  have e : (xs.map g).all id = xs.all g := by rw [List.all_map]; rfl
  rw [e]; exact q _ H1 (Same.refl _) (Dq.bl _)
theorem rc_any {α : Type} {xs : List α} {g : α → Bool} : RCX c (rAny K) [.d (.list (xs.map fun x => .bool (g x)))] (.d (.bool (xs.any g))) := fun H1 _ _ vs ha Q q => by
  obtain ⟨v, rfl, o⟩ := args1 ha
  obtain ⟨a, ws, rfl, h1, h2⟩ := dq_list o
  rw [map_bools] at h2
  obtain rfl := dqAll_bools h2
  refine ⟨a, xs.map g, rfl, sqL_of h1, ?_⟩
  have e : (xs.map g).any id = xs.any g := by rw [List.any_map]; rfl
  rw [e]; exact q _ H1 (Same.refl _) (Dq.bl _)
theorem rc_tupL {xs : List D} : RCX c (rTupOf K) [.d (.list xs)] (.d (.tuple xs)) := fun H1 _ l vs ha Q q => by
  obtain ⟨v, rfl, o⟩ := args1 ha
  obtain ⟨a, ws, rfl, h1, h2⟩ := dq_list o
  exact ⟨a, ws, rfl, .inl ⟨sqL_of h1, newT_q l h2 q⟩⟩
theorem rc_tupT {xs : List D} : RCX c (rTupOf K) [.d (.tuple xs)] (.d (.tuple xs)) := fun H1 _ l vs ha Q q => by
  obtain ⟨v, rfl, o⟩ := args1 ha
  obtain ⟨a, ob, ws, rfl, h1, h0, h2⟩ := dq_tuple o
  exact ⟨a, ws, rfl, .inr ⟨sqT_of h1, q _ H1 (Same.refl _) o⟩⟩
def rListOf (K : PySem.W.Frag) : List V → Hp → VK → Prop := fun xs H Q => ∃ p ys, xs = [.ref p] ∧ (SqL K H p ys ∨ SqT K H p ys) ∧ ∀ l, H l = none → Q (.ref l) (upd H l (.lst ys))
theorem rc_lstL {xs : List D} : RCX c (rListOf K) [.d (.list xs)] (.d (.list xs)) := fun H1 _ l vs ha Q q => by
  obtain ⟨v, rfl, o⟩ := args1 ha
  obtain ⟨a, ws, rfl, h1, h2⟩ := dq_list o
  exact ⟨a, ws, rfl, .inl (sqL_of h1), fun p hp => q _ _ (same_new hp _) (new_lst l hp h2)⟩
theorem rc_lstT {xs : List D} : RCX c (rListOf K) [.d (.tuple xs)] (.d (.list xs)) := fun H1 _ l vs ha Q q => by
  obtain ⟨v, rfl, o⟩ := args1 ha
  obtain ⟨a, ob, ws, rfl, h1, h0, h2⟩ := dq_tuple o
  exact ⟨a, ws, rfl, .inr (sqT_of h1), fun p hp => q _ _ (same_new hp _) (new_lst l hp h2)⟩
theorem rc_min2 {i j : Int} : RCX c (fun xs H Q => ∃ i j, xs = [V.int i, V.int j] ∧ Q (.int (if j < i then j else i)) H) [.d (.int i), .d (.int j)] (.d (.int (if j < i then j else i))) := fun H1 _ l vs ha Q q => by
  obtain ⟨v, w, rfl, o, p⟩ := args2 ha
  obtain rfl := dq_int o
  obtain rfl := dq_int p
  exact ⟨i, j, rfl, q _ H1 (Same.refl _) (Dq.int _)⟩
/-- dict of pairs -/
def pairD (p : Key × D) : D := .tuple [match p.1 with | .inl i => .int i | .inr x => .str x, p.2]
def kput (kvs : List (Key × D)) (k : Key) (v : D) : List (Key × D) :=
  if (kvs.any fun kv => decide (kv.1 = k)) = true then kvs.map (fun kv => if kv.1 = k then (kv.1, v) else kv) else kvs ++ [(k, v)]
def kmerge (kvs more : List (Key × D)) : List (Key × D) := more.foldl (fun acc kv => kput acc kv.1 kv.2) kvs
theorem kd_any {H : Hp} {kv : List (Key × V)} {kvs : List (Key × D)} (h : KD H kv kvs) (k : Key) : (kv.any fun kv => decide (kv.1 = k)) = kvs.any fun kv => decide (kv.1 = k) := by
  induction h with
  | nil => rfl
  | @cons p q r s hh t ih => rw [List.any_cons, List.any_cons, ih, hh.1]
theorem kd_app {H : Hp} {a b : List (Key × V)} {a' b' : List (Key × D)} (h : KD H a a') (h' : KD H b b') : KD H (a ++ b) (a' ++ b') := by
  induction h with
  | nil => exact h'
  | cons hh t ih => exact .cons hh ih
theorem kd_rep {H : Hp} {a : List (Key × V)} {a' : List (Key × D)} (h : KD H a a') (k : Key) {v : V} {d : D} (hv : Dq H v d) : KD H (a.map fun kv => if kv.1 = k then (kv.1, v) else kv) (a'.map fun kv => if kv.1 = k then (kv.1, d) else kv) := by
  induction h with
  | nil => exact .nil
  | @cons p q r s hh t ih =>
    refine .cons ?_ ih
    obtain ⟨p1, p2⟩ := p
    obtain ⟨q1, q2⟩ := q
    obtain ⟨h1, h2⟩ := hh
    obtain rfl : p1 = q1 := h1
    show (if p1 = k then (p1, v) else (p1, p2)).1 = (if p1 = k then (p1, d) else (p1, q2)).1 ∧ Dq H (if p1 = k then (p1, v) else (p1, p2)).2 (if p1 = k then (p1, d) else (p1, q2)).2
    by_cases e : p1 = k
    · rw [if_pos e, if_pos e]; exact ⟨rfl, hv⟩
    · rw [if_neg e, if_neg e]; exact ⟨rfl, h2⟩
theorem kd_put {H : Hp} {a : List (Key × V)} {a' : List (Key × D)} (h : KD H a a') (k : Key) {v : V} {d : D} (hv : Dq H v d) : KD H (putK a k v) (kput a' k d) := by
  unfold putK kput
  rw [kd_any h k]
  split
  · exact kd_rep h k hv
  · exact kd_app h (.cons ⟨rfl, hv⟩ .nil)
theorem kd_merge {H : Hp} {m : List (Key × V)} {m' : List (Key × D)} (h : KD H m m') : ∀ {a : List (Key × V)} {a' : List (Key × D)}, KD H a a' → KD H (mergeK a m) (kmerge a' m') := by
  induction h with
  | nil => exact fun h => h
  | @cons p q r s hh t ih =>
    intro a a' ha
    show KD H (mergeK (putK a p.1 p.2) r) (kmerge (kput a' q.1 q.2) s)
    rw [hh.1]
    exact ih (kd_put ha _ hh.2)
theorem pairs_q {M : List Addr} {H : Hp} : ∀ {kvs : List (Key × D)} {vs : List V}, DqAll (hid M H) vs (kvs.map pairD) → ∃ kv, PairsV K H vs kv ∧ KD (hid M H) kv kvs
  | [], _, h => by cases h; exact ⟨[], .nil, .nil⟩
  | (k, d) :: kvs, _, h => by
    cases h with
    | cons h1 h2 =>
      obtain ⟨kv, p1, p2⟩ := pairs_q h2
      obtain ⟨a, o, ws, rfl, ha, ho, hw⟩ := dq_tuple h1
      cases hw with
      | cons w1 w2 =>
        cases w2 with
        | cons w2 w3 =>
          cases w3
          rename_i u w
          have ek : u = kV k := by
            cases k with
            | inl i => exact dq_int w1
            | inr x => exact dq_str w1
          subst ek
          exact ⟨(k, w) :: kv, .cons ⟨a, rfl, sqT_of ha⟩ p1, .cons ⟨rfl, w2⟩ p2⟩
theorem rc_dictL {kvs : List (Key × D)} : RCX c (rDictP K) [.d (.list (kvs.map pairD))] (.k (kmerge [] kvs)) := fun H1 _ l vs ha Q q => by
  obtain ⟨v, rfl, o⟩ := args1 ha
  obtain ⟨a, ws, rfl, h1, h2⟩ := dq_list o
  obtain ⟨kv, p1, p2⟩ := pairs_q (K := K) h2
  refine ⟨a, ws, kv, rfl, .inl (sqL_of h1), p1, fun p hp => q _ _ (same_new hp _) ?_⟩
  exact ⟨p, _, rfl, by show hid c.M (upd H1 p _) p = _; rw [hid_upd_out (l.new hp)]; exact upd_same, (kd_merge p2 .nil).mono (Same.hid (same_new hp _))⟩
theorem rc_dictT {kvs : List (Key × D)} : RCX c (rDictP K) [.d (.tuple (kvs.map pairD))] (.k (kmerge [] kvs)) := fun H1 _ l vs ha Q q => by
  obtain ⟨v, rfl, o⟩ := args1 ha
  obtain ⟨a, ob, ws, rfl, h1, h0, h2⟩ := dq_tuple o
  obtain ⟨kv, p1, p2⟩ := pairs_q (K := K) h2
  refine ⟨a, ws, kv, rfl, .inr ⟨ob, (hid_some h1).2, h0⟩, p1, fun p hp => q _ _ (same_new hp _) ?_⟩
  exact ⟨p, _, rfl, by show hid c.M (upd H1 p _) p = _; rw [hid_upd_out (l.new hp)]; exact upd_same, (kd_merge p2 .nil).mono (Same.hid (same_new hp _))⟩

/-! ### methods of texts -/
def rStartsW : V → List V → Hp → VK → Prop := fun x xs H Q => ∃ a b, x = .str a ∧ xs = [.str b] ∧ Q (.bl (Txt.startswith a b)) H
theorem ev_m1 {r : V → List V → Hp → VK → Prop} {to te : TE} {x : Str} {y z : DV} (ho : EvX c to ρ (.d (.str x))) (he : EvX c te ρ y) (hr : RMX c r (.d (.str x)) [y] z) : EvX c (tM1 r to te) ρ z := fun H1 σ a Q q =>
  ho H1 σ a _ fun u H2 s2 o2 => ⟨⟨x, dq_str o2⟩, he H2 σ (a.same s2) _ fun v H3 s3 o3 =>
    hr H3 ((a.same s2).same s3).gr ((a.same s2).same s3).lv u [v] (o2.mono (Same.hid s3)) (.cons o3 .nil) _ fun w H4 s4 o4 => q w H4 (s2.trans (s3.trans s4)) o4⟩
theorem ev_bm {T : String} {r : V → List V → Hp → VK → Prop} {to : TE} {ta : TA} {x : DV} {ys : List DV} {z : DV} (ho : EvX c to ρ x) (ht : ∀ H1 v, VOk c.K (c.hid H1) v x → tyV K T v H1) (he : EvA c ta ρ ys) (hr : RMX c r x ys z) : EvX c (tBM K T r to ta) ρ z := fun H1 σ a Q q =>
  ho H1 σ a _ fun u H2 s2 o2 => ⟨ht H2 u o2, he H2 σ (a.same s2) _ fun vs H3 s3 o3 =>
    hr H3 ((a.same s2).same s3).gr ((a.same s2).same s3).lv u vs (o2.mono (Same.hid s3)) o3 _ fun w H4 s4 o4 => q w H4 (s2.trans (s3.trans s4)) o4⟩
/-- b stands at the head of a -/
def starts (a b : List Nat) : Bool := b.isPrefixOf a
theorem starts_iff {a b : List Nat} : starts a b = true ↔ ∃ r, a = b ++ r := by
  unfold starts
  rw [List.isPrefixOf_iff_prefix]
  exact ⟨fun ⟨r, e⟩ => ⟨r, e.symm⟩, fun ⟨r, e⟩ => ⟨r, e.symm⟩⟩
theorem starts_sw (a b : List Nat) : Txt.startswith (sw a) (sw b) = starts a b := by
  rw [Bool.eq_iff_iff]
  unfold Txt.startswith
  rw [PySem.StrLaws.subAt_eq, Bool.and_eq_true, decide_eq_true_iff, sw_len, sw_len, beq_iff_eq, starts_iff]
  have e1 : (sw a).cps.toList = a := tl_sw a
  have e2 : (sw b).cps.toList = b := tl_sw b
  rw [e1, e2, List.drop_zero]
  constructor
  · rintro ⟨_, h⟩
    exact ⟨a.drop b.length, (by conv => lhs; rw [← List.take_append_drop b.length a, h])⟩
  · rintro ⟨r, rfl⟩
    exact ⟨by rw [List.length_append]; omega, by simp⟩
theorem rm_starts {a b : List Nat} : RMX c (fun x xs H Q => ∃ a b, x = V.str a ∧ xs = [V.str b] ∧ Q (.bl (Txt.startswith a b)) H) (.d (ds a)) [.d (ds b)] (.d (.bool (starts a b))) := fun H1 _ _ v vs hv ha Q q => by
  obtain ⟨w, rfl, o⟩ := args1 ha
  exact ⟨sw a, sw b, dq_str hv, by rw [dq_str o], by rw [starts_sw]; exact q _ H1 (Same.refl _) (Dq.bl _)⟩
/-- "".join -/
def catW (xs : List (List Nat)) : List Nat := xs.flatten
theorem join_sw (xs : List (List Nat)) : Txt.join (sw []) (xs.map sw) = sw xs.flatten := by
  apply TL.ext_tl
  rw [TL.join_eq, TL.tl_join]
  have e0 : TL.tl (sw []) = [] := rfl
  rw [e0, List.map_map]
  have e : (TL.tl ∘ sw) = (id : List Nat → List Nat) := by funext l; exact tl_sw l
  rw [e, List.map_id]
  show TL.joinL [] xs = tl (sw _)
  rw [tl_sw]
  induction xs with
  | nil => rfl
  | cons a r ih =>
    cases r with
    | nil => simp [TL.joinL]
    | cons b r => rw [TL.joinL, ih, List.nil_append, List.flatten_cons (l := a)]
def rJoin (K : PySem.W.Frag) : V → List V → Hp → VK → Prop := fun x xs H Q => ∃ a p, ∃ ys : List Str, x = .str a ∧ xs = [.ref p] ∧ (SqL K H p (ys.map V.str) ∨ SqT K H p (ys.map V.str)) ∧
    (ys.map (·.length)).sum + ys.length * a.length ≤ 16777216 ∧ Q (.str (Txt.join a ys)) H
theorem rm_join {α : Type} {xs : List α} {g : α → List Nat} (h : ((xs.map g).flatten).length ≤ 1000000) : RMX c (rJoin K) (.d (ds [])) [.d (.list (xs.map fun x => ds (g x)))] (.d (ds (xs.map g).flatten)) := fun H1 _ _ v vs hv ha Q q => by
  obtain ⟨w, rfl, o⟩ := args1 ha
  obtain ⟨p, ws, rfl, h1, h2⟩ := dq_list o
  have e : (xs.map fun x => ds (g x)) = ((xs.map g).map sw).map PyData.str := by rw [List.map_map, List.map_map]; rfl
  rw [e] at h2
  obtain rfl := dqAll_strs h2
  refine ⟨sw [], p, (xs.map g).map sw, dq_str hv, rfl, .inl (sqL_of h1), ?_, by rw [join_sw]; exact q _ H1 (Same.refl _) (Dq.str _)⟩
  have e2 : (((xs.map g).map sw).map (·.length)).sum = ((xs.map g).flatten).length := by
    rw [List.length_flatten, List.map_map]
    refine congrArg List.sum ?_
    apply List.map_congr_left
    intro l _
    exact sw_len l
  rw [e2]
  have e3 : (sw []).length = 0 := rfl
  rw [e3]
  omega
end
end TD
set_option Elab.async false
set_option linter.all false
set_option maxRecDepth 100000
set_option maxHeartbeats 400000
/-! Iterators, comprehensions, loops. -/
namespace TD
open PySem PySem.Spec PyProof.Rows L2
/-- what a loop is given -/
inductive IV where
  | d (x : D)
  | pr (x y : D)
  | k (kvs : List (Key × D))
def ItV (H : Hp) (v : V) : IV → Prop
  | .d x => Dq H v x
  | .pr x y => ∃ T a b, v = .ref T ∧ H T = some (.tup [a, b]) ∧ Dq H a x ∧ Dq H b y
  | .k kvs => Dct H v kvs
structure ItOk (M : List Addr) (H2 : Hp) (J : It) (its : List IV) : Prop where
  go : ∀ M' i H', Same (hid M H2) (hid M' H') → Live M' H' → i < its.length → J.go i H'
  stop : ∀ M' i H', Same (hid M H2) (hid M' H') → Live M' H' → its.length ≤ i → J.stop i H'
  yld : ∀ M' i H' v H'', Same (hid M H2) (hid M' H') → Live M' H' → i < its.length → J.yld i H' v H'' → Same H' H'' ∧ ∃ it, its[i]? = some it ∧ ItV (hid M' H'') v it
def EvI (c : Cz) (wi : TI) (ρ : List DV) (its : List IV) : Prop := ∀ H1 σ, At c H1 σ ρ → ∀ R : It → Hp → Prop, (∀ J H2, Same H1 H2 → ItOk c.M H2 J its → R J H2) → wi σ H1 R
section
variable {X : Cx} {tg : Expr}
theorem PI.or {e : Expr} {w1 w2 : TI} (h1 : PI X tg e w1) (h2 : PI X tg e w2) : PI X tg e (fun σ H R => w1 σ H R ∨ w2 σ H R) := ⟨fun pins s σ H R I h => h.elim (h1.run pins s σ H R I) (h2.run pins s σ H R I)⟩
/-- a list, a tuple, a text -/
def iSeq (K : PySem.W.Frag) (tl : TE) : TI := fun σ H R => iList K tl σ H R ∨ iTup K tl σ H R ∨ iStr tl σ H R
theorem pi_seq {e : Expr} {te : TE} (h : PE X e te) : PI X tg e (iSeq X.K te) := PI.or (pi_list h) (PI.or (pi_tup h) (pi_str h))
end
section
variable {c : Cz} {K : PySem.W.Frag} {ρ : List DV}
theorem itOk_list {M : List Addr} {H2 : Hp} {a : Addr} {vs : List V} {xs : List D} (h1 : hid M H2 a = some (.lst vs)) (h2 : DqAll (hid M H2) vs xs) : ItOk M H2 (Itl K a) (xs.map .d) where
  go := fun M' i H' s l hi => by
    rw [List.length_map, ← dqAll_len h2] at hi
    exact ⟨vs, vs[i], .inl (.inl (hid_some (s _ _ h1)).2), List.getElem?_eq_getElem hi⟩
  stop := fun M' i H' s l hi => by
    rw [List.length_map, ← dqAll_len h2] at hi
    exact ⟨vs, .inl (.inl (hid_some (s _ _ h1)).2), hi⟩
  yld := fun M' i H' v H'' s l _ y => by
    obtain ⟨rfl, y⟩ := y
    have e := y vs (.inl (.inl (hid_some (s _ _ h1)).2))
    obtain ⟨d, e1, e2⟩ := dqAll_get h2 e
    exact ⟨Same.refl _, .d d, by rw [List.getElem?_map, e1]; rfl, dq_mono s _ _ e2⟩
theorem itOk_tup {M : List Addr} {H2 : Hp} {a : Addr} {o : Obj} {vs : List V} {xs : List D} (h1 : hid M H2 a = some (.frz o (.tup vs))) (h2 : DqAll (hid M H2) vs xs) : ItOk M H2 (Itt K a) (xs.map .d) where
  go := fun M' i H' s l hi => by
    rw [List.length_map, ← dqAll_len h2] at hi
    exact ⟨vs, vs[i], .inl (.inr ⟨o, (hid_some (s _ _ h1)).2⟩), List.getElem?_eq_getElem hi⟩
  stop := fun M' i H' s l hi => by
    rw [List.length_map, ← dqAll_len h2] at hi
    exact ⟨vs, .inl (.inr ⟨o, (hid_some (s _ _ h1)).2⟩), hi⟩
  yld := fun M' i H' v H'' s l _ y => by
    obtain ⟨rfl, y⟩ := y
    have e := y vs (.inl (.inr ⟨o, (hid_some (s _ _ h1)).2⟩))
    obtain ⟨d, e1, e2⟩ := dqAll_get h2 e
    exact ⟨Same.refl _, .d d, by rw [List.getElem?_map, e1]; rfl, dq_mono s _ _ e2⟩
theorem itOk_str {M : List Addr} {H2 : Hp} {l : List Nat} : ItOk M H2 (Its (sw l)) (l.map fun n => .d (ds [n])) where
  go := fun M' i H' s lv hi => by rw [List.length_map] at hi; show i < l.toArray.size; simpa using hi
  stop := fun M' i H' s lv hi => by rw [List.length_map] at hi; show l.toArray.size ≤ i; simpa using hi
  yld := fun M' i H' v H'' s lv _ y => by
    obtain ⟨rfl, k, e1, rfl⟩ := y
    have e2 : l[i]? = some k := by
      have e3 : l.toArray[i]? = some k := e1
      rwa [List.getElem?_toArray] at e3
    exact ⟨Same.refl _, .d (ds [k]), by rw [List.getElem?_map, e2]; rfl, Dq.str _⟩
theorem ei_list {tl : TE} {xs : List D} (h : EvX c tl ρ (.d (.list xs))) : EvI c (iSeq K tl) ρ (xs.map .d) := fun H1 σ a R r => .inl (h H1 σ a _ fun v H2 s2 o2 => by
  obtain ⟨p, vs, rfl, h1, h2⟩ := dq_list o2
  exact ⟨p, rfl, ⟨vs, sqL_of h1⟩, r _ H2 s2 (itOk_list h1 h2)⟩)
theorem ei_tup {tl : TE} {xs : List D} (h : EvX c tl ρ (.d (.tuple xs))) : EvI c (iSeq K tl) ρ (xs.map .d) := fun H1 σ a R r => .inr (.inl (h H1 σ a _ fun v H2 s2 o2 => by
  obtain ⟨p, o, vs, rfl, h1, h0, h2⟩ := dq_tuple o2
  exact ⟨p, rfl, ⟨vs, sqT_of h1⟩, r _ H2 s2 (itOk_tup h1 h2)⟩))
theorem ei_str {tl : TE} {l : List Nat} (h : EvX c tl ρ (.d (ds l))) : EvI c (iSeq K tl) ρ (l.map fun n => .d (ds [n])) := fun H1 σ a R r => .inr (.inr (h H1 σ a _ fun v H2 s2 o2 => ⟨sw l, dq_str o2, r _ H2 s2 itOk_str⟩))
theorem itOk_rng {M : List Addr} {H2 : Hp} {lo : Int} {n : Nat} : ItOk M H2 (Itr lo n) ((List.range n).map fun (i : Nat) => .d (.int (lo + i))) where
  go := fun M' i H' s l hi => by rw [List.length_map, List.length_range] at hi; exact hi
  stop := fun M' i H' s l hi => by rw [List.length_map, List.length_range] at hi; exact hi
  yld := fun M' i H' v H'' s l hi y => by
    obtain ⟨rfl, rfl⟩ := y
    rw [List.length_map, List.length_range] at hi
    exact ⟨Same.refl _, .d (.int (lo + i)), by rw [List.getElem?_map, List.getElem?_range hi]; rfl, Dq.int _⟩
theorem itOk_rngC {M : List Addr} {H2 : Hp} {lo k : Int} {n : Nat} : ItOk M H2 (Itc lo k n) ((List.range n).map fun (i : Nat) => .d (.int (lo + i * k))) where
  go := fun M' i H' s l hi => by rw [List.length_map, List.length_range] at hi; exact hi
  stop := fun M' i H' s l hi => by rw [List.length_map, List.length_range] at hi; exact hi
  yld := fun M' i H' v H'' s l hi y => by
    obtain ⟨rfl, rfl⟩ := y
    rw [List.length_map, List.length_range] at hi
    exact ⟨Same.refl _, .d (.int (lo + i * k)), by rw [List.getElem?_map, List.getElem?_range hi]; rfl, Dq.int _⟩
/-- range(n), range(a, b), range(a, b, -1) -/
theorem ei_rng1 {ta : TA} {n : Nat} (h : EvA c ta ρ [.d (.int n)]) (hn : n ≤ 1000000) : EvI c (iRng1 ta) ρ ((List.range n).map fun (i : Nat) => .d (.int (0 + i))) := fun H1 σ a R r => h H1 σ a _ fun vs H2 s2 o2 => by
  obtain ⟨v, rfl, o⟩ := args1 o2
  have e : (n : Int).toNat = n := by omega
  have q := r (Itr 0 n) H2 s2 itOk_rng
  exact ⟨n, by rw [dq_int o], by omega, by omega, by rw [e]; exact q⟩
theorem ei_rng2 {ta : TA} {lo hi : Int} (h : EvA c ta ρ [.d (.int lo), .d (.int hi)]) (h1 : -1000000 ≤ lo ∧ lo ≤ 1000000 ∧ -1000000 ≤ hi ∧ hi ≤ 1000000) : EvI c (iRng2 ta) ρ ((List.range (hi - lo).toNat).map fun (i : Nat) => .d (.int (lo + i))) := fun H1 σ a R r => h H1 σ a _ fun vs H2 s2 o2 => by
  obtain ⟨v, w, rfl, o, p⟩ := args2 o2
  exact ⟨lo, hi, by rw [dq_int o, dq_int p], by omega, r (Itr lo (hi - lo).toNat) H2 s2 itOk_rng⟩
theorem ei_rng3 {ta : TA} {lo hi : Int} (h : EvA c ta ρ [.d (.int lo), .d (.int hi), .d (.int (-1))]) (h1 : -1000000 ≤ lo ∧ lo ≤ 1000000 ∧ -1000000 ≤ hi ∧ hi ≤ 1000000) : EvI c (iRng3 ta) ρ ((List.range (lo - hi).toNat).map fun (i : Nat) => .d (.int (lo + i * (-1)))) := fun H1 σ a R r => h H1 σ a _ fun vs H2 s2 o2 => by
  cases o2 with
  | cons o t =>
    obtain ⟨v, w, rfl, p, q⟩ := args2 t
    have o' := dq_int o
    subst o'
    exact ⟨lo, hi, -1, (lo - hi).toNat, by rw [dq_int p, dq_int q], RgC.neg (by omega) (by omega) (by omega) (by omega), r (Itc lo (-1) (lo - hi).toNat) H2 s2 itOk_rngC⟩
/-- zip of two lists, of two tuples -/
theorem zip_get {α β : Type} {xs : List α} {ys : List β} {i : Nat} {x : α} {y : β} (h1 : xs[i]? = some x) (h2 : ys[i]? = some y) : (xs.zip ys)[i]? = some (x, y) := by
  rw [List.getElem?_zip_eq_some]; exact ⟨h1, h2⟩
theorem itOk_zip {M : List Addr} {H2 : Hp} {a b : Addr} {vs ws : List V} {xs ys : List D} (h1 : hid M H2 a = some (.lst vs)) (h2 : DqAll (hid M H2) vs xs) (h3 : hid M H2 b = some (.lst ws)) (h4 : DqAll (hid M H2) ws ys) :
    ItOk M H2 (Itz K a b) ((xs.zip ys).map fun p => .pr p.1 p.2) where
  go := fun M' i H' s l hi => by
    rw [List.length_map, List.length_zip, ← dqAll_len h2, ← dqAll_len h4] at hi
    have a1 : i < vs.length := by omega
    have a2 : i < ws.length := by omega
    exact ⟨vs, ws, vs[i], ws[i], .inl (.inl (hid_some (s _ _ h1)).2), .inl (.inl (hid_some (s _ _ h3)).2), List.getElem?_eq_getElem a1, List.getElem?_eq_getElem a2⟩
  stop := fun M' i H' s l hi => by
    rw [List.length_map, List.length_zip, ← dqAll_len h2, ← dqAll_len h4] at hi
    exact ⟨vs, ws, .inl (.inl (hid_some (s _ _ h1)).2), .inl (.inl (hid_some (s _ _ h3)).2), by omega⟩
  yld := fun M' i H' v H'' s l _ y => by
    obtain ⟨T, x, y, rfl, hT, rfl, y1, y2⟩ := y
    have e1 := y1 vs (.inl (.inl (hid_some (s _ _ h1)).2))
    have e2 := y2 ws (.inl (.inl (hid_some (s _ _ h3)).2))
    obtain ⟨d, f1, f2⟩ := dqAll_get h2 e1
    obtain ⟨e, g1, g2⟩ := dqAll_get h4 e2
    have sn := Same.hid (M := M') (same_new hT (.tup [x, y]))
    exact ⟨same_new hT _, .pr d e, by rw [List.getElem?_map, zip_get f1 g1]; rfl, T, x, y, rfl, by rw [hid_upd_out (l.new hT)]; exact upd_same, dq_mono sn _ _ (dq_mono s _ _ f2), dq_mono sn _ _ (dq_mono s _ _ g2)⟩
theorem itOk_zipT {M : List Addr} {H2 : Hp} {a b : Addr} {o o' : Obj} {vs ws : List V} {xs ys : List D} (h1 : hid M H2 a = some (.frz o (.tup vs))) (h2 : DqAll (hid M H2) vs xs) (h3 : hid M H2 b = some (.frz o' (.tup ws))) (h4 : DqAll (hid M H2) ws ys) :
    ItOk M H2 (RZ.ItzT K a b) ((xs.zip ys).map fun p => .pr p.1 p.2) where
  go := fun M' i H' s l hi => by
    rw [List.length_map, List.length_zip, ← dqAll_len h2, ← dqAll_len h4] at hi
    have a1 : i < vs.length := by omega
    have a2 : i < ws.length := by omega
    exact ⟨vs, ws, vs[i], ws[i], .inl (.inr ⟨_, (hid_some (s _ _ h1)).2⟩), .inl (.inr ⟨_, (hid_some (s _ _ h3)).2⟩), List.getElem?_eq_getElem a1, List.getElem?_eq_getElem a2⟩
  stop := fun M' i H' s l hi => by
    rw [List.length_map, List.length_zip, ← dqAll_len h2, ← dqAll_len h4] at hi
    exact ⟨vs, ws, .inl (.inr ⟨_, (hid_some (s _ _ h1)).2⟩), .inl (.inr ⟨_, (hid_some (s _ _ h3)).2⟩), by omega⟩
  yld := fun M' i H' v H'' s l _ y => by
    obtain ⟨T, x, y, rfl, hT, rfl, y1, y2⟩ := y
    have e1 := y1 vs (.inl (.inr ⟨_, (hid_some (s _ _ h1)).2⟩))
    have e2 := y2 ws (.inl (.inr ⟨_, (hid_some (s _ _ h3)).2⟩))
    obtain ⟨d, f1, f2⟩ := dqAll_get h2 e1
    obtain ⟨e, g1, g2⟩ := dqAll_get h4 e2
    have sn := Same.hid (M := M') (same_new hT (.tup [x, y]))
    exact ⟨same_new hT _, .pr d e, by rw [List.getElem?_map, zip_get f1 g1]; rfl, T, x, y, rfl, by rw [hid_upd_out (l.new hT)]; exact upd_same, dq_mono sn _ _ (dq_mono s _ _ f2), dq_mono sn _ _ (dq_mono s _ _ g2)⟩
theorem ei_zipL {ta : TA} {xs ys : List D} (h : EvA c ta ρ [.d (.list xs), .d (.list ys)]) : EvI c (RZ.iZipA K ta) ρ ((xs.zip ys).map fun p => .pr p.1 p.2) := fun H1 σ a R r => h H1 σ a _ fun vs H2 s2 o2 => by
  obtain ⟨v, w, rfl, o, p⟩ := args2 o2
  obtain ⟨a1, vs, rfl, h1, h2⟩ := dq_list o
  obtain ⟨a2, ws, rfl, h3, h4⟩ := dq_list p
  exact ⟨a1, a2, vs, ws, rfl, .inl ⟨sqL_of h1, sqL_of h3, r _ H2 s2 (itOk_zip h1 h2 h3 h4)⟩⟩
theorem ei_zipT {ta : TA} {xs ys : List D} (h : EvA c ta ρ [.d (.tuple xs), .d (.tuple ys)]) : EvI c (RZ.iZipA K ta) ρ ((xs.zip ys).map fun p => .pr p.1 p.2) := fun H1 σ a R r => h H1 σ a _ fun vs H2 s2 o2 => by
  obtain ⟨v, w, rfl, o, p⟩ := args2 o2
  obtain ⟨a1, o1, vs, rfl, h1, _, h2⟩ := dq_tuple o
  obtain ⟨a2, o3, ws, rfl, h3, _, h4⟩ := dq_tuple p
  exact ⟨a1, a2, vs, ws, rfl, .inr ⟨sqT_of h1, sqT_of h3, r _ H2 s2 (itOk_zipT h1 h2 h3 h4)⟩⟩

/-! ### targets -/
theorem wipe_set {σ : L2.St} {j : Nat} {o : Option V} : ∀ {vs : List Nat}, j ∈ vs → wipe (σ.set j o) vs = wipe σ vs
  | [], h => by simp at h
  | v :: vs, h => by
    show (wipe (σ.set j o) vs).set v none = (wipe σ vs).set v none
    by_cases e : j ∈ vs
    · rw [wipe_set e]
    · have ev : j = v := by rcases List.mem_cons.mp h with h | h; exact h; exact absurd h e
      subst ev
      have w : ∀ vs : List Nat, j ∉ vs → wipe (σ.set j o) vs = (wipe σ vs).set j o := by
        intro vs
        induction vs with
        | nil => intro _; rfl
        | cons u us ih =>
          intro hn
          show (wipe (σ.set j o) us).set u none = ((wipe σ us).set u none).set j o
          rw [ih (fun z => hn (List.mem_cons_of_mem _ z)), List.set_comm]
          intro z; exact hn (by rw [z]; exact List.mem_cons_self)
      rw [w vs e, List.set_set]
theorem wipe_wipe {σ : L2.St} : ∀ {us vs : List Nat}, (∀ j ∈ us, j ∈ vs) → wipe (wipe σ us) vs = wipe σ vs
  | [], _, _ => rfl
  | u :: us, vs, h => by
    show wipe ((wipe σ us).set u none) vs = _
    rw [wipe_set (h u List.mem_cons_self), wipe_wipe fun j hj => h j (List.mem_cons_of_mem _ hj)]
/-- the target takes the item: ρ becomes ρ'; the slots at js are set -/
def GOk (K : PySem.W.Frag) (js : List Nat) (g : TG) (it : IV) (ρ ρ' : List DV) : Prop := ∀ M H σ v (Q : L2.St → Hp → Prop), Env K (hid M H) σ ρ → ItV (hid M H) v it →
  (∀ σ', Env K (hid M H) σ' ρ' → (∀ vs, (∀ j ∈ js, j ∈ vs) → wipe σ' vs = wipe σ vs) → Q σ' H) → g v σ H Q
def GsOk (K : PySem.W.Frag) (js : List Nat) (g : TGs) (xs : List D) (ρ ρ' : List DV) : Prop := ∀ M H σ vs (Q : L2.St → Hp → Prop), Env K (hid M H) σ ρ → DqAll (hid M H) vs xs →
  (∀ σ', Env K (hid M H) σ' ρ' → (∀ vs, (∀ j ∈ js, j ∈ vs) → wipe σ' vs = wipe σ vs) → Q σ' H) → g vs σ H Q
theorem g_nameK {j : Nat} {x : List (Key × D)} : GOk K [j] (gName j) (.k x) ρ (ρ.set j (.k x)) := fun M H σ v Q e o q => q _ (e.set j ⟨v, rfl, o⟩) fun vs h => wipe_set (h j (by simp))
theorem g_name {j : Nat} {x : D} : GOk K [j] (gName j) (.d x) ρ (ρ.set j (.d x)) := fun M H σ v Q e o q => q _ (e.set j ⟨v, rfl, o⟩) fun vs h => wipe_set (h j (by simp))
theorem gs_nil : GsOk K [] gNil [] ρ ρ := fun M H σ vs Q e o q => by cases o; exact ⟨rfl, q σ e fun _ _ => rfl⟩
theorem gs_cons {js1 js2 : List Nat} {t : TG} {u : TGs} {x : D} {xs : List D} {ρ1 ρ2 : List DV} (h1 : GOk K js1 t (.d x) ρ ρ1) (h2 : GsOk K js2 u xs ρ1 ρ2) : GsOk K (js1 ++ js2) (gCons t u) (x :: xs) ρ ρ2 := fun M H σ vs Q e o q => by
  cases o with
  | cons o1 o2 =>
    refine ⟨_, _, rfl, h1 M H σ _ _ e o1 fun σ1 e1 w1 => h2 M H σ1 _ _ e1 o2 fun σ2 e2 w2 => q σ2 e2 fun vs hv => ?_⟩
    rw [w2 vs fun j hj => hv j (List.mem_append_right _ hj), w1 vs fun j hj => hv j (List.mem_append_left _ hj)]
theorem g_tup {js : List Nat} {n : Nat} {t : TGs} {xs : List D} {ρ' : List DV} (h : GsOk K js t xs ρ ρ') (hn : xs.length = n := by rfl) : GOk K js (gTup K n t) (.d (.tuple xs)) ρ ρ' := fun M H σ v Q e o q => by
  obtain ⟨a, ob, ws, rfl, h1, _, h2⟩ := dq_tuple o
  exact ⟨a, ws, rfl, sqT_of h1, by rw [dqAll_len h2]; exact hn, h M H σ ws Q e h2 q⟩
theorem g_pair {js : List Nat} {t : TGs} {x y : D} {ρ' : List DV} (h : GsOk K js t [x, y] ρ ρ') : GOk K js (gTup K 2 t) (.pr x y) ρ ρ' := fun M H σ v Q e o q => by
  obtain ⟨T, a, b, rfl, h1, h2, h3⟩ := o
  exact ⟨T, [a, b], rfl, .inl (.inl (hid_some h1).2), rfl, h M H σ _ Q e (.cons h2 (.cons h3 .nil)) q⟩
theorem ItV.mono {H H' : Hp} (s : Same H H') {v : V} : ∀ {it : IV}, ItV H v it → ItV H' v it
  | .d x, h => dq_mono s _ _ h
  | .pr _ _, ⟨T, a, b, e, h1, h2, h3⟩ => ⟨T, a, b, e, s _ _ h1, dq_mono s _ _ h2, dq_mono s _ _ h3⟩
  | .k _, h => Dct.mono s h

/-! ### comprehensions -/
abbrev Cz.push (c : Cz) (p : Addr) : Cz := { c with M := p :: c.M }
theorem hid_cons {M : List Addr} {H : Hp} {p : Addr} : Same (hid (p :: M) H) (hid M H) := fun b o e => by
  obtain ⟨h1, h2⟩ := hid_some e
  rw [hid_out fun z => h1 (List.mem_cons_of_mem _ z)]; exact h2
theorem hid_new {M : List Addr} {H H' : Hp} {p : Addr} (hp : H p = none) (s : Same H H') : Same (hid M H) (hid (p :: M) H') := fun b o e => by
  obtain ⟨h1, h2⟩ := hid_some e
  have hb : b ≠ p := ne_of_none h2 hp
  rw [hid_out (by simp [hb, h1])]; exact s b o h2
theorem filter_take_succ {α : Type} {p : α → Bool} {xs : List α} {i : Nat} {x : α} (h : xs[i]? = some x) : (xs.take (i + 1)).filter p = (xs.take i).filter p ++ (if p x = true then [x] else []) := by
  rw [List.take_add_one, h, List.filter_append]
  refine congrArg _ ?_
  show List.filter p [x] = _
  rw [List.filter_cons]
  rfl
theorem ev_lc {wi : TI} {g : TG} {tt : TT} {te : TE} {vs : List Nat} {α : Type} {its : List α} {it : α → IV} {p : α → Bool} {f : α → D} {js : List Nat} {ρ' : α → List DV} (hi : EvI c wi ρ (its.map it))
    (hg : ∀ x ∈ its, GOk c.K js g (it x) (wipeD ρ vs) (ρ' x)) (hj : ∀ j ∈ js, j ∈ vs) (ht : ∀ q x, x ∈ its → EvB (c.push q) tt (ρ' x) (p x)) (he : ∀ q x, x ∈ its → p x = true → EvX (c.push q) te (ρ' x) (.d (f x))) (hz : its.length ≤ 1000000) :
    EvX c (tLc wi g tt te vs) ρ (.d (.list ((its.filter p).map f))) := fun H1 σ a Q q => hi H1 σ a _ fun J H2 s2 ok q0 hq0 => by
  have a2 := a.same s2
  have hl : (its.map it).length = its.length := List.length_map _
  refine ⟨fun i m H' => m = its.length - i ∧ i ≤ its.length ∧ Same H2 H' ∧ ∃ acc, H' q0 = some (.lst acc) ∧ DqAll (hid (q0 :: c.M) H') acc (((its.take i).filter p).map f), ⟨_, rfl, Nat.zero_le _, same_new hq0 _, [], upd_same, .nil⟩, ?_⟩
  rintro i m H' ⟨rfl, hi', s, acc, e1, e2⟩
  have s3 : Same (hid c.M H2) (hid (q0 :: c.M) H') := hid_new hq0 s
  have lv : Live (q0 :: c.M) H' := fun b hb => by
    rcases List.mem_cons.mp hb with rfl | hb
    · rw [e1]; exact fun z => by cases z
    · exact a2.lv.same s b hb
  have hacc : acc.length ≤ i := by
    rw [dqAll_len e2, List.length_map]
    exact Nat.le_trans (List.length_filter_le _ _) (by rw [List.length_take]; exact Nat.min_le_left _ _)
  by_cases hlt : i < its.length
  · refine .inr ⟨ok.go _ i H' s3 lv (by rw [hl]; exact hlt), _, fun H'' z => z, fun v H3 y => ?_⟩
    obtain ⟨s4, itv, f1, f2⟩ := ok.yld _ i H' v H3 s3 lv (by rw [hl]; exact hlt) y
    obtain ⟨x, hx, rfl⟩ : ∃ x, its[i]? = some x ∧ it x = itv := by
      rw [List.getElem?_map] at f1
      cases h : its[i]? with
      | none => rw [h] at f1; cases f1
      | some x => rw [h] at f1; exact ⟨x, rfl, Option.some.inj f1⟩
    have hmem : x ∈ its := List.mem_of_getElem? hx
    have hk := filter_take_succ (p := p) hx
    have A3 : Env c.K (hid (q0 :: c.M) H3) (wipe σ vs) (wipeD ρ vs) := ((a2.env.mono s3).mono (Same.hid s4)).wipe vs
    refine hg x hmem (q0 :: c.M) H3 (wipe σ vs) v _ A3 f2 fun σ' e' w' => ⟨?_, ?_⟩
    · rw [w' vs hj]; exact wipe_wipe fun j hj => hj
    · have at3 : At (c.push q0) H3 σ' (ρ' x) := ⟨a2.gr.trans (Same.gr (s.trans s4)), lv.same s4, e'⟩
      refine ht q0 x hmem H3 σ' at3 _ fun H4 s5 => ?_
      refine ite2 (fun hp => ?_) (fun hp => ?_)
      · refine he q0 x hmem hp H4 σ' (at3.same s5) _ fun w H5 s6 o6 => ?_
        have e5 : H5 q0 = some (.lst acc) := s6 _ _ (s5 _ _ (s4 _ _ e1))
        have sh := Same.hid (M := q0 :: c.M) (s4.trans (s5.trans s6))
        have up : Same (hid (q0 :: c.M) H5) (hid (q0 :: c.M) (upd H5 q0 (.lst (acc ++ [w])))) := fun b o eb => by
          obtain ⟨h1, h2⟩ := hid_some eb
          rw [hid_out h1, upd_ne fun z => h1 (by rw [z]; exact List.mem_cons_self)]; exact h2
        refine ⟨acc, e5, Nat.lt_of_le_of_lt (Nat.le_trans hacc (Nat.le_of_lt (Nat.lt_of_lt_of_le hlt hz))) (by decide), its.length - (i + 1), by omega, rfl, hlt, fun b o eb => ?_, acc ++ [w], upd_same, ?_⟩
        · rw [upd_ne (ne_of_none eb hq0)]; exact s6 _ _ (s5 _ _ (s4 _ _ (s _ _ eb)))
        · rw [hk, if_pos hp, List.map_append]
          exact dqAll_app (dqAll_mono up _ _ (dqAll_mono sh _ _ e2)) (.cons (dq_mono up _ _ o6) .nil)
      · have hp' : p x = false := Bool.eq_false_iff.mpr hp
        refine ⟨its.length - (i + 1), by omega, rfl, hlt, s.trans (s4.trans s5), acc, s5 _ _ (s4 _ _ e1), ?_⟩
        rw [hk, if_neg hp, List.append_nil]
        exact dqAll_mono (Same.hid (s4.trans s5)) _ _ e2
  · have e : i = its.length := by omega
    subst e
    refine .inl ⟨ok.stop _ _ H' s3 lv (by rw [hl]; exact Nat.le_refl _), q _ H' (s2.trans s) ?_⟩
    rw [List.take_length] at e2
    have hn : q0 ∉ c.M := fun z => by have := a2.lv q0 z; exact this hq0
    exact .lst (by show hid c.M H' q0 = _; rw [hid_out hn]; exact e1) (dqAll_mono hid_cons _ _ e2)
end
end TD
set_option Elab.async false
set_option linter.all false
set_option maxRecDepth 100000
set_option maxHeartbeats 400000
/-! Statements, loops, defs. -/
namespace TD
open PySem PySem.Spec PyProof.Rows L2
/-- where a statement stands -/
structure Sta (K : PySem.W.Frag) (M : List Addr) (H : Hp) (σ : L2.St) (ρ : List DV) : Prop where
  lv : Live M H
  env : Env K (hid M H) σ ρ
abbrev cz (K : PySem.W.Frag) (M : List Addr) (H : Hp) : Cz := ⟨K, M, [], H⟩
section
variable {K : PySem.W.Frag} {M : List Addr} {H : Hp} {σ : L2.St} {ρ : List DV} {D : Ends}
theorem Sta.at (s : Sta K M H σ ρ) : At (cz K M H) H σ ρ := ⟨Gr.refl _ _, s.lv, s.env⟩
theorem Sta.same {H' : Hp} (s : Sta K M H σ ρ) (h : Same H H') : Sta K M H' σ ρ := ⟨s.lv.same h, s.env.mono (Same.hid h)⟩
theorem Sta.set {i : Nat} {v : V} {x : DV} (s : Sta K M H σ ρ) (h : VOk K (hid M H) v x) : Sta K M H (σ.set i (some v)) (ρ.set i x) := ⟨s.lv, s.env.set i (SOk.of h)⟩
/-- fewer are hidden -/
theorem Sta.drop {M' : List Addr} (s : Sta K M H σ ρ) (h : ∀ m ∈ M', m ∈ M) : Sta K M' H σ ρ := ⟨fun m hm => s.lv m (h m hm), s.env.mono fun b o e => by
  obtain ⟨h1, h2⟩ := hid_some e
  rw [hid_out fun z => h1 (h b z)]; exact h2⟩
/-- one more is hidden, new -/
theorem Sta.push {p : Addr} {o : HO} (s : Sta K M H σ ρ) (hp : H p = none) : Sta K (p :: M) (upd H p o) σ ρ := ⟨fun m hm => by
  by_cases e : m = p
  · subst e; rw [upd_same]; exact fun z => by cases z
  · rw [upd_ne e]
    rcases List.mem_cons.mp hm with h | h
    · exact absurd h e
    · exact s.lv m h, s.env.mono (hid_new hp (same_new hp _))⟩
/-- a hidden one is written -/
theorem hid_upd_in {p : Addr} {o : HO} (h : p ∈ M) : hid M (upd H p o) = hid M H := by
  funext b
  unfold hid
  by_cases q : b ∈ M
  · rw [if_pos q, if_pos q]
  · rw [if_neg q, if_neg q, upd_ne fun z => q (by rw [z]; exact h)]
theorem Sta.write {p : Addr} {o : HO} (s : Sta K M H σ ρ) (hp : p ∈ M) : Sta K M (upd H p o) σ ρ := ⟨fun m hm => by
  by_cases e : m = p
  · subst e; rw [upd_same]; exact fun z => by cases z
  · rw [upd_ne e]; exact s.lv m hm, by rw [hid_upd_in hp]; exact s.env⟩

/-! ### statements; the rest behind (q_) or nothing behind (s_) -/
variable {te : TE} {tt : TT} {tu tw tz : TS} {x : DV} {i : Nat}
theorem q_asg (s : Sta K M H σ ρ) (h : EvX (cz K M H) te ρ x) (k : ∀ σ' H', Same H H' → Sta K M H' σ' (ρ.set i x) → tz D σ' H') : tSeq (tAsg te (gName i)) tz D σ H :=
  h H σ s.at _ fun v H2 s2 o2 => k _ H2 s2 ((s.same s2).set o2)
theorem s_asg (s : Sta K M H σ ρ) (h : EvX (cz K M H) te ρ x) (k : ∀ σ' H', Same H H' → Sta K M H' σ' (ρ.set i x) → D.nx σ' H') : tAsg te (gName i) D σ H :=
  h H σ s.at _ fun v H2 s2 o2 => k _ H2 s2 ((s.same s2).set o2)
theorem q_drop (s : Sta K M H σ ρ) (h : EvX (cz K M H) te ρ x) (k : ∀ H', Same H H' → Sta K M H' σ ρ → tz D σ H') : tSeq (tDrop te) tz D σ H :=
  h H σ s.at _ fun v H2 s2 o2 => k H2 s2 (s.same s2)
theorem s_ret (s : Sta K M H σ ρ) (h : EvX (cz K M H) te ρ x) (k : ∀ v H', Same H H' → VOk K (hid M H') v x → D.rt v H') : tRet te D σ H := h H σ s.at _ fun v H2 s2 o2 => k v H2 s2 o2
theorem s_if {b : Bool} (s : Sta K M H σ ρ) (h : EvB (cz K M H) tt ρ b) (h1 : b = true → ∀ H', Same H H' → Sta K M H' σ ρ → tu D σ H') (h2 : b = false → ∀ H', Same H H' → Sta K M H' σ ρ → tw D σ H') : tIfS tt tu tw D σ H :=
  h H σ s.at _ fun H2 s2 => by
    cases b with
    | true => exact iteT (h1 rfl H2 s2 (s.same s2))
    | false => exact iteF (h2 rfl H2 s2 (s.same s2))
theorem q_if {b : Bool} (s : Sta K M H σ ρ) (h : EvB (cz K M H) tt ρ b) (h1 : b = true → ∀ H', Same H H' → Sta K M H' σ ρ → tu { D with nx := tz D } σ H') (h2 : b = false → ∀ H', Same H H' → Sta K M H' σ ρ → tw { D with nx := tz D } σ H') : tSeq (tIfS tt tu tw) tz D σ H :=
  s_if (D := { D with nx := tz D }) s h h1 h2
/-- if without else -/
theorem q_when {b : Bool} (s : Sta K M H σ ρ) (h : EvB (cz K M H) tt ρ b) (h1 : b = true → ∀ H', Same H H' → Sta K M H' σ ρ → tu { D with nx := tz D } σ H') (h2 : b = false → ∀ H', Same H H' → Sta K M H' σ ρ → tz D σ H') : tSeq (tIfS tt tu tNext) tz D σ H :=
  s_if (D := { D with nx := tz D }) s h h1 h2
/-- targets -/
theorem q_asgG {js : List Nat} {g : TG} {y : PyData} {ρ' : List DV} (s : Sta K M H σ ρ) (h : EvX (cz K M H) te ρ (.d y)) (hg : GOk K js g (.d y) ρ ρ') (k : ∀ σ' H', Same H H' → Sta K M H' σ' ρ' → tz D σ' H') : tSeq (tAsg te g) tz D σ H :=
  h H σ s.at _ fun v H2 s2 o2 => hg M H2 σ v _ (s.same s2).env o2 fun σ' e' _ => k σ' H2 s2 ⟨(s.same s2).lv, e'⟩
/-- a, b = x, y -/
theorem q_par {i j : Nat} {ta : TA} {x y : DV} (s : Sta K M H σ ρ) (h : EvA (cz K M H) ta ρ [x, y]) (k : ∀ σ' H', Same H H' → Sta K M H' σ' ((ρ.set i x).set j y) → tz D σ' H') : tSeq (tPar i j ta) tz D σ H :=
  h H σ s.at _ fun vs H2 s2 o2 => by
    obtain ⟨v, w, rfl, o, p⟩ := args2 o2
    exact ⟨v, w, rfl, k _ H2 s2 (((s.same s2).set o).set p)⟩

/-! ### loops -/
/-- the loop's invariant between two turns -/
def LS (K : PySem.W.Frag) (M : List Addr) (Pv : List DV → Hp → Prop) (H : Hp) (σ' : L2.St) (H' : Hp) : Prop := ∃ ρ', Same (hid M H) (hid M H') ∧ Sta K M H' σ' ρ' ∧ Pv ρ' H'
theorem s_for {wi : TI} {g : TG} {α : Type} {ys : List α} {it : α → IV} {js : List Nat} {up : α → List DV → List DV} (s : Sta K M H σ ρ) (hi : EvI (cz K M H) wi ρ (ys.map it)) (hg : ∀ y ∈ ys, ∀ ρ', GOk K js g (it y) ρ' (up y ρ'))
    (Pv : Nat → List DV → Hp → Prop) (h0 : ∀ H1, Same H H1 → Pv 0 ρ H1)
    (hs : ∀ i y σ' ρ' H' H3 Hb, ys[i]? = some y → Same (hid M H) (hid M Hb) → Same (hid M Hb) (hid M H') → Pv i ρ' H' → Same H' H3 → Sta K M H3 σ' (up y ρ') → tu { D with nx := LS K M (Pv (i + 1)) Hb, ct := LS K M (Pv (i + 1)) Hb, bk := D.nx } σ' H3)
    (hd : ∀ σ' ρ' H', Same (hid M H) (hid M H') → Sta K M H' σ' ρ' → Pv ys.length ρ' H' → D.nx σ' H') : tFor wi g tu D σ H := hi H σ s.at _ fun J H1 s1 ok => by
  have hl : (ys.map it).length = ys.length := List.length_map _
  refine ⟨fun i m σ' H' => m = ys.length - i ∧ i ≤ ys.length ∧ Same (hid M H1) (hid M H') ∧ ∃ ρ', Sta K M H' σ' ρ' ∧ Pv i ρ' H', ⟨_, rfl, Nat.zero_le _, Same.refl _, ρ, s.same s1, h0 H1 s1⟩, ?_⟩
  rintro i m σ' H' ⟨rfl, hi', sm, ρ', st, pv⟩
  have s1' := Same.hid (M := M) s1
  by_cases hlt : i < ys.length
  · refine .inr ⟨ok.go M i H' sm st.lv (by rw [hl]; exact hlt), LS K M (Pv (i + 1)) H1, ?_, fun v H3 y => ?_⟩
    · rintro σ'' H'' ⟨ρ'', s5, st5, pv5⟩
      exact ⟨ys.length - (i + 1), by omega, rfl, hlt, s5, ρ'', st5, pv5⟩
    · obtain ⟨s4, itv, f1, f2⟩ := ok.yld M i H' v H3 sm st.lv (by rw [hl]; exact hlt) y
      obtain ⟨x, hx, rfl⟩ : ∃ x, ys[i]? = some x ∧ it x = itv := by
        rw [List.getElem?_map] at f1
        cases h : ys[i]? with
        | none => rw [h] at f1; cases f1
        | some x => rw [h] at f1; exact ⟨x, rfl, Option.some.inj f1⟩
      have st3 := st.same s4
      refine hg x (List.mem_of_getElem? hx) ρ' M H3 σ' v _ st3.env f2 fun σ2 e2 _ => ?_
      exact hs i x σ2 ρ' H' H3 H1 hx s1' sm pv s4 ⟨st3.lv, e2⟩
  · have e : i = ys.length := by omega
    subst e
    exact .inl ⟨ok.stop M _ H' sm st.lv (by rw [hl]; exact Nat.le_refl _), hd σ' ρ' H' (s1'.trans sm) st pv⟩
theorem q_for {wi : TI} {g : TG} {α : Type} {ys : List α} {it : α → IV} {js : List Nat} {up : α → List DV → List DV} (s : Sta K M H σ ρ) (hi : EvI (cz K M H) wi ρ (ys.map it)) (hg : ∀ y ∈ ys, ∀ ρ', GOk K js g (it y) ρ' (up y ρ'))
    (Pv : Nat → List DV → Hp → Prop) (h0 : ∀ H1, Same H H1 → Pv 0 ρ H1)
    (hs : ∀ i y σ' ρ' H' H3 Hb, ys[i]? = some y → Same (hid M H) (hid M Hb) → Same (hid M Hb) (hid M H') → Pv i ρ' H' → Same H' H3 → Sta K M H3 σ' (up y ρ') → tu { D with nx := LS K M (Pv (i + 1)) Hb, ct := LS K M (Pv (i + 1)) Hb, bk := tz D } σ' H3)
    (hd : ∀ σ' ρ' H', Same (hid M H) (hid M H') → Sta K M H' σ' ρ' → Pv ys.length ρ' H' → tz D σ' H') : tSeq (tFor wi g tu) tz D σ H :=
  s_for (D := { D with nx := tz D }) s hi hg Pv h0 hs hd
theorem s_while (s : Sta K M H σ ρ) (Pv : Nat → List DV → Hp → Prop) (m0 : Nat) (h0 : Pv m0 ρ H)
    (hs : ∀ m σ' ρ' H', Same (hid M H) (hid M H') → Sta K M H' σ' ρ' → Pv m ρ' H' → ∃ b, EvB (cz K M H') tt ρ' b ∧
      (b = true → ∀ H3, Same H' H3 → Sta K M H3 σ' ρ' → tu { D with nx := fun σ'' H'' => ∃ m', m' < m ∧ LS K M (Pv m') H σ'' H'', ct := fun σ'' H'' => ∃ m', m' < m ∧ LS K M (Pv m') H σ'' H'', bk := D.nx } σ' H3) ∧
      (b = false → ∀ H3, Same H' H3 → Sta K M H3 σ' ρ' → D.nx σ' H3)) : tWhile tt tu D σ H := by
  refine ⟨fun m σ' H' => LS K M (Pv m) H σ' H', ⟨m0, ρ, Same.refl _, s, h0⟩, ?_⟩
  rintro m σ' H' ⟨ρ', sm, st, pv⟩
  obtain ⟨b, hb, h1, h2⟩ := hs m σ' ρ' H' sm st pv
  refine hb H' σ' st.at _ fun H3 s3 => ?_
  cases b with
  | true => exact iteT ⟨_, fun _ _ z => z, h1 rfl H3 s3 (st.same s3)⟩
  | false => exact iteF (h2 rfl H3 s3 (st.same s3))
theorem q_while (s : Sta K M H σ ρ) (Pv : Nat → List DV → Hp → Prop) (m0 : Nat) (h0 : Pv m0 ρ H)
    (hs : ∀ m σ' ρ' H', Same (hid M H) (hid M H') → Sta K M H' σ' ρ' → Pv m ρ' H' → ∃ b, EvB (cz K M H') tt ρ' b ∧
      (b = true → ∀ H3, Same H' H3 → Sta K M H3 σ' ρ' → tu { D with nx := fun σ'' H'' => ∃ m', m' < m ∧ LS K M (Pv m') H σ'' H'', ct := fun σ'' H'' => ∃ m', m' < m ∧ LS K M (Pv m') H σ'' H'', bk := tz D } σ' H3) ∧
      (b = false → ∀ H3, Same H' H3 → Sta K M H3 σ' ρ' → tz D σ' H3)) : tSeq (tWhile tt tu) tz D σ H :=
  s_while (D := { D with nx := tz D }) s Pv m0 h0 hs

/-! ### a list that changes, hidden -/
/-- at p stands a list of the data xs, hidden -/
def ML (M : List Addr) (H : Hp) (p : Addr) (xs : List PyData) : Prop := p ∈ M ∧ ∃ vs, H p = some (.lst vs) ∧ DqAll (hid M H) vs xs
theorem ML.same {H' : Hp} {p : Addr} {xs : List PyData} (h : ML M H p xs) (s : Same H H') : ML M H' p xs := ⟨h.1, let ⟨vs, a, b⟩ := h.2; ⟨vs, s _ _ a, dqAll_mono (Same.hid s) _ _ b⟩⟩
/-- shown again, it is data -/
theorem ML.data {M' : List Addr} {p : Addr} {xs : List PyData} (h : ML M H p xs) (hs : ∀ m ∈ M', m ∈ M) (hp : p ∉ M') : Dq (hid M' H) (.ref p) (.list xs) := by
  obtain ⟨_, vs, a, b⟩ := h
  exact .lst (by rw [hid_out hp]; exact a) (dqAll_mono (fun c o e => by
    obtain ⟨h1, h2⟩ := hid_some e
    rw [hid_out fun z => h1 (hs c z)]; exact h2) _ _ b)
/-- p = [..] : a new list, hidden from now on -/
theorem q_newL {ta : TA} {xs : List PyData} (s : Sta K M H σ ρ) (h : EvA (cz K M H) ta ρ (xs.map DV.d)) (hz : xs.length ≤ 1000) (k : ∀ p σ' H', H p = none → p ∉ M → Same (hid M H) (hid (p :: M) H') → Same H H' → Sta K (p :: M) H' σ' (ρ.set i (.v (.ref p))) → ML (p :: M) H' p xs → tz D σ' H') : tSeq (tAsg (tLst ta) (gName i)) tz D σ H :=
  h H σ s.at _ fun vs H2 s2 o2 => by
    have hd := args_dq o2
    refine ⟨by rw [dqAll_len hd]; exact Nat.le_trans hz (by decide), fun p hp => ?_⟩
    have st := s.same s2
    have nm : p ∉ M := st.lv.new hp
    have sn := same_new hp (HO.lst vs)
    have st3 := st.push (o := .lst vs) hp
    exact k p _ _ (by cases e : H p with | none => rfl | some o => rw [s2 _ _ e] at hp; cases hp) nm ((Same.hid s2).trans (hid_new hp sn)) (s2.trans sn) (st3.set (x := .v (.ref p)) rfl) ⟨List.mem_cons_self, vs, upd_same, dqAll_mono (hid_new hp sn) _ _ hd⟩
/-- p.append(e) -/
theorem q_app {K' : PySem.W.Frag} {to : TE} {p : Addr} {xs : List PyData} {y : PyData} (s : Sta K M H σ ρ) (m : ML M H p xs) (ho : EvX (cz K M H) to ρ (.v (.ref p))) (h : EvX (cz K M H) te ρ (.d y)) (hz : xs.length ≤ 1000000)
    (k : ∀ H', Same (hid M H) (hid M H') → Gr [p] H H' → Sta K M H' σ ρ → ML M H' p (xs ++ [y]) → tz D σ H') : tSeq (tDrop (tBM K' "list" rAppend to (tCons te tNil))) tz D σ H :=
  ho H σ s.at _ fun v H2 s2 o2 => by
    obtain rfl : v = V.ref p := o2
    have m2 := m.same s2
    obtain ⟨_, vs, a, b⟩ := m2
    refine ⟨.inl ⟨rfl, vs, .inl (.inl a)⟩, h H2 σ (s.at.same s2) _ fun w H3 s3 o3 => ?_⟩
    have m3 := m.same (s2.trans s3)
    obtain ⟨mp, vs', a', b'⟩ := m3
    refine ⟨p, vs', w, rfl, rfl, a', ?_, ?_⟩
    · rw [dqAll_len b']; exact Nat.lt_of_le_of_lt hz (by decide)
    · have e : hid M (upd H3 p (.lst (vs' ++ [w]))) = hid M H3 := hid_upd_in mp
      refine k _ (by rw [e]; exact Same.hid (s2.trans s3)) (fun b o n e => ?_) ((s.same (s2.trans s3)).write mp) ⟨mp, _, upd_same, by rw [e]; exact dqAll_app b' (.cons o3 .nil)⟩
      rw [upd_ne (by simpa using n)]; exact s3 _ _ (s2 _ _ e)
theorem s_app {K' : PySem.W.Frag} {to : TE} {p : Addr} {xs : List PyData} {y : PyData} (s : Sta K M H σ ρ) (m : ML M H p xs) (ho : EvX (cz K M H) to ρ (.v (.ref p))) (h : EvX (cz K M H) te ρ (.d y)) (hz : xs.length ≤ 1000000)
    (k : ∀ H', Same (hid M H) (hid M H') → Gr [p] H H' → Sta K M H' σ ρ → ML M H' p (xs ++ [y]) → D.nx σ H') : tDrop (tBM K' "list" rAppend to (tCons te tNil)) D σ H :=
  q_app (tz := tNext) s m ho h hz k
/-- p.extend(e) -/
theorem q_ext {K' : PySem.W.Frag} {to : TE} {p : Addr} {xs ys : List PyData} (s : Sta K M H σ ρ) (m : ML M H p xs) (ho : EvX (cz K M H) to ρ (.v (.ref p))) (h : EvX (cz K M H) te ρ (.d (.list ys))) (hz : xs.length + ys.length ≤ 1000000)
    (k : ∀ H', Same (hid M H) (hid M H') → Gr [p] H H' → Sta K M H' σ ρ → ML M H' p (xs ++ ys) → tz D σ H') : tSeq (tDrop (tBM K' "list" rExtend to (tCons te tNil))) tz D σ H :=
  ho H σ s.at _ fun v H2 s2 o2 => by
    obtain rfl : v = V.ref p := o2
    have m2 := m.same s2
    obtain ⟨_, vs, a, b⟩ := m2
    refine ⟨.inl ⟨rfl, vs, .inl (.inl a)⟩, h H2 σ (s.at.same s2) _ fun w H3 s3 o3 => ?_⟩
    have m3 := m.same (s2.trans s3)
    obtain ⟨mp, vs', a', b'⟩ := m3
    obtain ⟨q, ws, rfl, e1, e2⟩ := dq_list o3
    refine ⟨p, q, vs', ws, rfl, rfl, a', (hid_some e1).2, ?_, ?_⟩
    · rw [dqAll_len b', dqAll_len e2]; exact Nat.le_trans hz (by decide)
    · have e : hid M (upd H3 p (.lst (vs' ++ ws))) = hid M H3 := hid_upd_in mp
      refine k _ (by rw [e]; exact Same.hid (s2.trans s3)) (fun b o n e => ?_) ((s.same (s2.trans s3)).write mp) ⟨mp, _, upd_same, by rw [e]; exact dqAll_app b' e2⟩
      rw [upd_ne (by simpa using n)]; exact s3 _ _ (s2 _ _ e)
end

/-! ### defs -/
/-- a def of the module with its promise -/
def FnIs (P : Program) (w : World) (K : PySem.W.Frag) (mg : Str → Option Value) (base : Heap) (CX : CXT) (k : Nat) (x : Str) (ps : List Str) (sp : Sp) : Prop :=
  ∃ (f : Addr) (fd : FuncData), FnOk P w K mg base CX k f fd ps sp ∧ mg x = some (.ref f) ∧ PySem.W.keepIn K (.ref f) = true ∧ Binds K fd ps []
section
variable {X : Cx} {CX : CXT} {k : Nat} {x : Str} {ps : List Str} {sp : Sp} {E : XK} {p pos : Pos} {e : Expr} {es : List Expr} {t : TA}
theorem pe_callF (F : FnIs X.prog X.w X.K X.mg X.base CX k x ps sp) (hr : Room k X.A) (hx : Passes CX X E) (ha : PA X (e :: es) t) (hg : Gl X x := by rfl) (hdb : (x == ("__debug__" : Str)) = false := by decide)
    (he : starEach (e :: es) X.env = (false, eval e X.env) :: starEach es X.env := by rfl) (hpl : (backTo pos (starEach es X.env)).any (·.1) = false := by rfl) : PE X (.Call (.Name x p) (e :: es) [] pos) (tCall sp [] E t) := by
  obtain ⟨f, fd, G, hm, hk, hb⟩ := F
  exact pe_call G hr hg hm hk hb .nil hx ha hdb he hpl
end
/-- the promise of a def that changes nothing: for the arguments xs it hands back x, or raises an exception of the class C -/
def spX (K : PySem.W.Frag) (ok : List DV → DV → Prop) (bad : List DV → Value → Prop) : Sp := fun vs H Q E => ∃ M xs, Live M H ∧ Args K (hid M H) vs xs ∧
  ((∃ x, ok xs x ∧ ∀ v H', Same H H' → VOk K (hid M H') v x → Q v H') ∨ ∃ C, bad xs C ∧ ∀ H', Same H H' → E C none H')
abbrev noBad : List DV → Value → Prop := fun _ _ => False
abbrev spP (K : PySem.W.Frag) (ok : List DV → DV → Prop) : Sp := spX K ok noBad
section
variable {c : Cz} {ρ : List DV} {ta : TA} {E : XK} {ok : List DV → DV → Prop} {bad : List DV → Value → Prop}
theorem ev_call {xs : List DV} {x : DV} (ha : EvA c ta ρ xs) (h : ok xs x) : EvX c (tCall (spX c.K ok bad) [] E ta) ρ x := fun H1 σ a Q q => ha H1 σ a _ fun vs H2 s2 o2 => by
  rw [List.append_nil]
  exact ⟨c.M, xs, (a.same s2).lv, o2, .inl ⟨x, h, fun v H3 s3 o3 => q v H3 (s2.trans s3) o3⟩⟩
theorem bad_call {K : PySem.W.Frag} {M : List Addr} {H : Hp} {σ : L2.St} {xs : List DV} {C : Value} {Q : VK} (s : Sta K M H σ ρ) (ha : EvA (cz K M H) ta ρ xs) (h : bad xs C) (q : ∀ H', Same H H' → E C none H') : tCall (spX K ok bad) [] E ta σ H Q :=
  ha H σ s.at _ fun vs H2 s2 o2 => by
    rw [List.append_nil]
    exact ⟨M, xs, (s.same s2).lv, o2, .inr ⟨C, h, fun H3 s3 => q H3 (s2.trans s3)⟩⟩
end
section
variable {P : Program} {w : World} {K : PySem.W.Frag} {mg : Str → Option Value} {base : Heap}
/-- a def as the top has left it -/
structure DefAt (K : PySem.W.Frag) (x : Str) (st : Stmt) (f : Addr) : Prop where
  at_ : PySem.W.nsIn K mainGlobals x = some (some (.ref f))
  lk : ∃ (oc : Value) (od : Option Addr) (kV doc pm : Value) (an : Option Addr) (cdv ct : Value) (osl : Array (Option Value)),
    K.lookup f = some ⟨oc, od, .func (PySem.W.fnOf x x (defArgs st) (defBody st) (defScope st) .none kV doc pm an cdv ct), osl⟩ ∧ PySem.W.codeIn K cdv x = true
  kp : PySem.W.keepIn K (.ref f) = true
theorem def_mk {x : Str} {st : Stmt} {f : Addr} {od an : Option Addr} {sl : Array (Option Value)} {oc kV doc pm cd ct : Value} (a : PySem.W.nsIn K mainGlobals x = some (some (.ref f)))
    (l : K.lookup f = some ⟨oc, od, .func (PySem.W.fnOf x x (defArgs st) (defBody st) (defScope st) .none kV doc pm an cd ct), sl⟩) (c : PySem.W.codeIn K cd x = true) (k : PySem.W.keepIn K (.ref f) = true) : ∃ f, DefAt K x st f := ⟨f, a, ⟨oc, od, kV, doc, pm, an, cd, ct, sl, l, c⟩, k⟩
/-- what the top has left -/
def Left (K : PySem.W.Frag) (mg : Str → Option Value) : Prop := ∀ (x : Str) (v : Option Value), PySem.W.nsIn K mainGlobals x = some v → mg x = v
theorem okXN {x qual : Str} {st : Stmt} {f : Addr} {fd : FuncData} {N ps : List Str} {k : Nat} {sp : Sp} (F : Fun K x qual st f fd) (S : FnScope N ps (defScope st)) (len : ∀ vs H Q E, sp vs H Q E → vs.length = ps.length)
    (hbody : ∀ (cdv : Value) (A : Around) (outer : List PySem.Env) (s : Shared) (H : Hp) (vs : List V) (Q : VK) (E : XK), Room k (A.deeper (envOfC qual (defScope st) s.heap.objs.size f cdv)) → sp vs H Q E →
      ∃ t, PSs (cxOf (L2N.CX P w) P w K mg base N qual (defScope st) f cdv A outer s H E) (defBody st) t ∧ t { nx := fun _ H' => Q .non H', rt := Q } (L2.start N vs) H) : FnOk P w K mg base (L2N.CX P w) (k + 1) f fd ps sp := by
  obtain ⟨oc, od, kV, doc, pm, an, cdv, ct, osl, rfl, lk, hcd⟩ := F.ex
  exact fn_of lk hcd S len fun A outer s H vs Q E hr hsp => hbody cdv A outer s H vs Q E hr hsp
theorem passN {X : Cx} : Passes (L2N.CX X.prog X.w) X E0 := fun _ _ _ _ _ _ _ h => by
  obtain ⟨_, _, _, _, _, _, _, _, _, _, _, _, z⟩ := h
  exact z.elim
/-- around a body nothing is let out -/
theorem takesN {X : Cx} : L2N.Takes X (fun _ _ _ _ => False) := fun _ _ x => by
  obtain ⟨_, _, _, _, _, _, _, _, _, _, _, _, _, _, _, _, z⟩ := x
  exact z.elim
/-- THE RULE for a def: its body's derivation and reading -/
theorem def_ok {x : Str} {st : Stmt} {N ps : List Str} {k : Nat} {ok : List DV → DV → Prop} {bad : List DV → Value → Prop} (d : ∃ f, DefAt K x st f) (hmg : ∀ f, PySem.W.nsIn K mainGlobals x = some (some (.ref f)) → mg x = some (.ref f)) (S : FnScope N ps (defScope st))
    (hbind : ∀ (kV doc pm : Value) (an : Option Addr) (cdv ct : Value) (us : List Value), us.length = ps.length → bindArgs (PySem.W.fnOf x x (defArgs st) (defBody st) (defScope st) .none kV doc pm an cdv ct) ⟨us, []⟩ = pure (ps.zip us))
    (len : ∀ xs, ((∃ y, ok xs y) ∨ ∃ C, bad xs C) → xs.length = ps.length)
    (body : ∀ (f : Addr) (cdv : Value) (A : Around) (outer : List PySem.Env) (s : Shared) (H : Hp) (vs : List V) (E : XK), Room k (A.deeper (envOfC x (defScope st) s.heap.objs.size f cdv)) →
      ∃ t, PSs (cxOf (L2N.CX P w) P w K mg base N x (defScope st) f cdv A outer s H E) (defBody st) t ∧ ∀ (M : List Addr) (xs : List DV) (Q : VK), Sta K M H (L2.start N vs) (xs ++ List.replicate (N.length - xs.length) .z) →
        ((∃ y, ok xs y ∧ ∀ v H', Same H H' → VOk K (hid M H') v y → Q v H') ∨ ∃ C, bad xs C ∧ ∀ H', Same H H' → E C none H') → t { nx := fun _ H' => Q .non H', rt := Q } (L2.start N vs) H) :
    FnIs P w K mg base (L2N.CX P w) (k + 1) x ps (spX K ok bad) := by
  obtain ⟨f, at_, ⟨oc, od, kV, doc, pm, an, cdv, ct, osl, lk, cd⟩, kp⟩ := d
  have F := fun_mk (st := st) lk cd kp
  refine ⟨f, _, okXN F S (fun vs H Q E h => ?_) (fun cdv A outer s H vs Q E hr h => ?_), hmg f at_, kp, F.binds hbind⟩
  · obtain ⟨M, xs, _, ha, h⟩ := h
    rw [ha.len]
    exact len xs (h.elim (fun ⟨y, h, _⟩ => .inl ⟨y, h⟩) fun ⟨C, h, _⟩ => .inr ⟨C, h⟩)
  · obtain ⟨M, xs, lv, ha, h⟩ := h
    obtain ⟨t, h1, h2⟩ := body f cdv A outer s H vs E hr
    exact ⟨t, h1, h2 M xs Q ⟨lv, env_start ha⟩ h⟩
end
end TD
set_option Elab.async false
set_option linter.all false
set_option maxRecDepth 100000
set_option maxHeartbeats 400000
/-! Words that the printed terms use. -/
namespace TD
open PySem PySem.Spec PyProof.Rows L2
section
variable {X : Cx} {pos p : Pos}
theorem pe_strW {k : Str} {j : Nat} (l : List Nat) (h : k = sw l := by decide +kernel) : PE X (.Constant (.str k) j pos) (tC (.str (sw l))) := by subst h; exact pe_str
theorem pe_startsW {o e : Expr} {to te : TE} {apos : Pos} (ho : PE X o to) (he : PE X e te) (hs : starEach [e] X.env = [(false, eval e X.env)] := by rfl) (hbase : attributeBase o "startswith" X.env (eval o X.env) = eval o X.env := by rfl) (hline : (apos.endLine == pos.line) = true := by rfl) :
    PE X (.Call (.Attribute o "startswith" apos) [e] [] pos) (tM1 (fun x xs H Q => ∃ a b, x = V.str a ∧ xs = [V.str b] ∧ Q (.bl (Txt.startswith a b)) H) to te) := pe_m1 PySem.F.slot_str_startswith PySem.F.type_str_startswith mt_startswith ho he hs hbase hline
theorem ip_addU : PIp X .Add (fun x y H Q => rI0 (fun i j => .int (i + j)) x y H Q ∨ ∃ i j, x = .str i ∧ y = .str j ∧ i.length + j.length ≤ sizeLine ∧ Q (.str (i ++ j)) H) := fun pins s σ H x y v u Q I rx ry h =>
  OpR.or iop_add iop_add_str pins s σ H x y v u Q I rx ry h
/-- X(), X an own exception class without own __init__ -/
theorem pmk_own0 {C : Addr} {bmB : List Value} {B newId initId : String} {x : Str} (F : ExcBaseFacts B newId initId bmB) (q : PySem.W.excIn X.K C bmB newId = true) (gC : X.mg x = some (.ref C)) (kC : PySem.W.keepIn X.K (.ref C) = true) (r : Raises X (.ref C)) (hg : Gl X x)
    (hdb : (x == ("__debug__" : Str)) = false := by decide) : L2N.PMk X (.Call (.Name x p) [] [] pos) (fun _ H Q => Q (.ref C) none H) := by
  intro pins s σ H Q I h
  refine wpAny_Call_Name_kw (ld_glob I hg gC ?_ hdb)
  refine PySem.W.callWith_K0 I.kIn kC ?_
  show wpAny _ _ (call (.ref C) []) _ _ _
  obtain ⟨bm, N, nm, qn, bs, hdct, sn, sub, ab, col, dd, k0, k1, k2, k3, k5, mN, hC, hN, hni, T⟩ := exc_obj I.kIn q
  refine wpAny_call_exc_subT F T hC hN hni (fun h' e hm => ?_) (Nat.zero_le _)
  exact L2N.mk_of I hm r h (I.hok.gone hm.new)
end
section
variable {c : Cz} {K : PySem.W.Frag} {ρ : List DV} {te ta tb td : TE} {tt tu : TT} {i : Nat}
theorem ev_vd {x : D} (h : ρ[i]? = some (.d x)) : EvX c (tVar i) ρ (.d x) := ev_var h
theorem ev_vv {x : V} (h : ρ[i]? = some (.v x)) : EvX c (tVar i) ρ (.v x) := ev_var h
theorem ev_vk {x : List (Key × D)} (h : ρ[i]? = some (.k x)) : EvX c (tVar i) ρ (.k x) := ev_var h
theorem ev_vs {x : List Int} (h : ρ[i]? = some (.s x)) : EvX c (tVar i) ρ (.s x) := ev_var h
inductive SubX : DV → DV → DV → Prop
  | l {xs : List D} {i : Int} {y : D} (e : atI xs i = some y) : SubX (.d (.list xs)) (.d (.int i)) (.d y)
  | t {xs : List D} {i : Int} {y : D} (e : atI xs i = some y) : SubX (.d (.tuple xs)) (.d (.int i)) (.d y)
  | s {l : List Nat} {i : Int} {n : Nat} (e : atI l i = some n) (h : l.length ≤ 1000000) : SubX (.d (ds l)) (.d (.int i)) (.d (ds [n]))
  | sc {ns : List Int} {i n : Int} (e : atI ns i = some n) : SubX (.s ns) (.d (.int i)) (.d (.int n))
  | k {kvs : List (Key × D)} {x : Str} {y : D} (e : kget kvs (.inr x) = some y) : SubX (.k kvs) (.d (.str x)) (.d y)
  | ki {kvs : List (Key × D)} {x : Int} {y : D} (e : kget kvs (.inl x) = some y) : SubX (.k kvs) (.d (.int x)) (.d y)
theorem ev_sub {x y z : DV} (ha : EvX c ta ρ x) (hb : EvX c tb ρ y) (h : SubX x y z) : EvX c (tSub c.K ta tb) ρ z := by
  cases h with
  | l e => exact ev_subL ha hb e
  | t e => exact ev_subT ha hb e
  | s e h => exact ev_subS ha hb e h
  | sc e => exact ev_subSc ha hb e
  | k e => exact ev_subD ha hb e
  | ki e => exact ev_subDi ha hb e
inductive SlX : DV → Option Int → Option Int → DV → Prop
  | s {l : List Nat} {lo hi : Option Int} (h : l.length ≤ 1000000) : SlX (.d (ds l)) lo hi (.d (ds (cutL l lo hi)))
  | l {xs : List D} {lo hi : Option Int} : SlX (.d (.list xs)) lo hi (.d (.list (cutL xs lo hi)))
  | t {xs : List D} {lo hi : Option Int} : SlX (.d (.tuple xs)) lo hi (.d (.tuple (cutL xs lo hi)))
theorem ev_sl {tl' th : TO} {x y : DV} {lo hi : Option Int} (h : EvX c te ρ x) (h1 : EvO c tl' ρ lo) (h2 : EvO c th ρ hi) (hs : SlX x lo hi y) : EvX c (tSl (rSlU K) te tl' th) ρ y := by
  cases hs with
  | s hz => exact ev_slS h h1 h2 hz
  | l => exact ev_slL h h1 h2
  | t => exact ev_slT h h1 h2
/-- a <= b <= c -/
theorem ev_chain {r r' : R2} {x y z : DV} {b b' : Bool} {tc : TE} (ha : EvX c ta ρ x) (hb : EvX c tb ρ y) (hr : RX c r x y (.d (.bool b))) (hc : b = true → EvX c tc ρ z) (hr' : b = true → RX c r' y z (.d (.bool b'))) :
    EvX c (tChain r r' ta tb tc) ρ (.d (.bool (b && b'))) := fun H1 σ a Q q => ha H1 σ a _ fun u H2 s2 o2 => hb H2 σ (a.same s2) _ fun v H3 s3 o3 => by
  have a3 := (a.same s2).same s3
  refine hr H3 a3.gr a3.lv u v (o2.mono (Same.hid s3)) o3 _ fun w H4 s4 o4 => ⟨b, dq_bool o4, ?_⟩
  cases b with
  | true =>
    refine iteT (hc rfl H4 σ (a3.same s4) _ fun w' H5 s5 o5 => ?_)
    have a5 := (a3.same s4).same s5
    exact hr' rfl H5 a5.gr a5.lv v w' (o3.mono (Same.hid (s4.trans s5))) o5 _ fun w'' H6 s6 o6 => q w'' H6 (s2.trans (s3.trans (s4.trans (s5.trans s6)))) o6
  | false => exact iteF (q _ H4 (s2.trans (s3.trans s4)) (Dq.bl false))
/-- a value's truth -/
theorem eb_truB {b : Bool} (h : EvX c ta ρ (.d (.bool b))) : EvB c (fun σ H Q => ta σ H fun x H' => ∃ k, TruV K x H' k ∧ Q k H') ρ b := fun H1 σ a Q q => h H1 σ a _ fun v H2 s2 o2 => by
  obtain rfl := dq_bool o2
  exact ⟨b, rfl, q H2 s2⟩
theorem ei_listT {α : Type} {ys : List α} {enc : α → D} {tl : TE} (h : EvX c tl ρ (.d (.list (ys.map enc)))) : EvI c (iSeq K tl) ρ (ys.map fun y => .d (enc y)) := by
  have := ei_list (K := K) h
  rw [List.map_map] at this
  exact this
theorem ei_tupT {α : Type} {ys : List α} {enc : α → D} {tl : TE} (h : EvX c tl ρ (.d (.tuple (ys.map enc)))) : EvI c (iSeq K tl) ρ (ys.map fun y => .d (enc y)) := by
  have := ei_tup (K := K) h
  rw [List.map_map] at this
  exact this
inductive SeqX : DV → List IV → Prop
  | lm {α : Type} {ys : List α} {enc : α → D} : SeqX (.d (.list (ys.map enc))) (ys.map fun y => .d (enc y))
  | tm {α : Type} {ys : List α} {enc : α → D} : SeqX (.d (.tuple (ys.map enc))) (ys.map fun y => .d (enc y))
  | s {l : List Nat} : SeqX (.d (ds l)) (l.map fun n => .d (ds [n]))
  | l {xs : List D} : SeqX (.d (.list xs)) (xs.map .d)
  | t {xs : List D} : SeqX (.d (.tuple xs)) (xs.map .d)
theorem ei_seq {x : DV} {its : List IV} {tl : TE} (h : EvX c tl ρ x) (hs : SeqX x its) : EvI c (iSeq K tl) ρ its := by
  cases hs with
  | lm => exact ei_listT h
  | tm => exact ei_tupT h
  | s => exact ei_str h
  | l => exact ei_list h
  | t => exact ei_tup h
inductive ZipX : List DV → List IV → Prop
  | l {xs ys : List D} : ZipX [.d (.list xs), .d (.list ys)] ((xs.zip ys).map fun p => .pr p.1 p.2)
  | t {xs ys : List D} : ZipX [.d (.tuple xs), .d (.tuple ys)] ((xs.zip ys).map fun p => .pr p.1 p.2)
theorem ei_zip {xs : List DV} {its : List IV} {ta : TA} (h : EvA c ta ρ xs) (hs : ZipX xs its) : EvI c (RZ.iZipA K ta) ρ its := by
  cases hs with
  | l => exact ei_zipL h
  | t => exact ei_zipT h
theorem ev_lcY {wi : TI} {g : TG} {vs : List Nat} {α : Type} {its : List α} {it : α → IV} {f : α → D} {js : List Nat} {ρ' : α → List DV} (hi : EvI c wi ρ (its.map it))
    (hg : ∀ x ∈ its, GOk c.K js g (it x) (wipeD ρ vs) (ρ' x)) (hj : ∀ j ∈ js, j ∈ vs) (he : ∀ q x, x ∈ its → EvX (c.push q) te (ρ' x) (.d (f x))) (hz : its.length ≤ 1000000) :
    EvX c (tLc wi g tYes te vs) ρ (.d (.list (its.map f))) := by
  have := ev_lc (p := fun _ => true) (tt := tYes) hi hg hj (fun q x _ => eb_yes) (fun q x hx _ => he q x hx) hz
  have e : its.filter (fun _ => true) = its := by simp
  rw [e] at this
  exact this
theorem rx_sub {i j : Int} : RX c (rI0 fun i j => .int (i - j)) (.d (.int i)) (.d (.int j)) (.d (.int (i - j))) := rx_I0 (g := fun i j => i - j)
theorem rx_le {i j : Int} : RX c (rI0 fun i j => .bl (decide (i ≤ j))) (.d (.int i)) (.d (.int j)) (.d (.bool (decide (i ≤ j)))) := rx_B0 (g := fun i j => decide (i ≤ j))
theorem rx_ge {i j : Int} : RX c (rI0 fun i j => .bl (decide (j ≤ i))) (.d (.int i)) (.d (.int j)) (.d (.bool (decide (j ≤ i)))) := rx_B0 (g := fun i j => decide (j ≤ i))
end
end TD
set_option Elab.async false
set_option linter.all false
set_option maxRecDepth 100000
set_option maxHeartbeats 400000
/-! Two clauses; what dicts, sorts and extremes give. -/
namespace TD
open PySem PySem.Spec PyProof.Rows L2
/-- the names js are among vs -/
def SubJ (js vs : List Nat) : Prop := ∀ j ∈ js, j ∈ vs
theorem SubJ.mk {js vs : List Nat} (h : (js.all fun j => vs.contains j) = true) : SubJ js vs := fun j hj => by
  have := List.all_eq_true.mp h j hj
  simpa using this
/-- small enough -/
def Fits (n : Nat) : Prop := n ≤ 1000000
section
variable {c : Cz} {K : PySem.W.Frag} {ρ : List DV}
theorem ev_lcF {wi : TI} {g : TG} {tt : TT} {te : TE} {vs : List Nat} {α : Type} {its : List α} {it : α → IV} {p : α → Bool} {f : α → D} {js : List Nat} {ρ' : α → List DV} (hi : EvI c wi ρ (its.map it))
    (hg : ∀ x ∈ its, GOk c.K js g (it x) (wipeD ρ vs) (ρ' x)) (hj : SubJ js vs) (ht : ∀ q x, x ∈ its → EvB (c.push q) tt (ρ' x) (p x)) (he : ∀ q x, x ∈ its → p x = true → EvX (c.push q) te (ρ' x) (.d (f x))) (hz : Fits its.length) :
    EvX c (tLc wi g tt te vs) ρ (.d (.list ((its.filter p).map f))) := ev_lc hi hg hj ht he hz
theorem ev_lcA {wi : TI} {g : TG} {te : TE} {vs : List Nat} {α : Type} {its : List α} {it : α → IV} {f : α → D} {js : List Nat} {ρ' : α → List DV} (hi : EvI c wi ρ (its.map it))
    (hg : ∀ x ∈ its, GOk c.K js g (it x) (wipeD ρ vs) (ρ' x)) (hj : SubJ js vs) (he : ∀ q x, x ∈ its → EvX (c.push q) te (ρ' x) (.d (f x))) (hz : Fits its.length) :
    EvX c (tLc wi g tYes te vs) ρ (.d (.list (its.map f))) := ev_lcY hi hg hj he hz
theorem ev_lc2 {wi wi1 : TI} {g g1 : TG} {tt tt1 : TT} {te : TE} {vs vs1 : List Nat} {α β : Type} {its : List α} {it : α → IV} {p : α → Bool} {its2 : α → List β} {it2 : α → β → IV} {p2 : α → β → Bool} {f : α → β → D} {js js2 : List Nat} {ρ' : α → List DV} {ρ2 : α → β → List DV}
    (hi : EvI c wi ρ (its.map it)) (hg : ∀ x ∈ its, GOk c.K js g (it x) (wipeD ρ vs) (ρ' x)) (hj : SubJ js vs) (ht : ∀ q x, x ∈ its → EvB (c.push q) tt (ρ' x) (p x))
    (hi2 : ∀ q x, x ∈ its → p x = true → EvI (c.push q) wi1 (ρ' x) ((its2 x).map (it2 x)))
    (hg2 : ∀ x ∈ its, ∀ y ∈ its2 x, GOk c.K js2 g1 (it2 x y) (wipeD (ρ' x) vs1) (ρ2 x y)) (hj2 : SubJ js2 vs1)
    (ht2 : ∀ q x y, x ∈ its → y ∈ its2 x → p x = true → EvB (c.push q) tt1 (ρ2 x y) (p2 x y)) (he : ∀ q x y, x ∈ its → y ∈ its2 x → p x = true → p2 x y = true → EvX (c.push q) te (ρ2 x y) (.d (f x y)))
    (hz : Fits ((its.filter p).flatMap fun x => ((its2 x).filter (p2 x)).map (f x)).length) :
    EvX c (tLc2 wi g tt wi1 g1 tt1 te vs vs1) ρ (.d (.list ((its.filter p).flatMap fun x => ((its2 x).filter (p2 x)).map (f x)))) := fun H1 σ a Q q => hi H1 σ a _ fun J H2 s2 ok q0 hq0 => by
  have a2 := a.same s2
  have hl : (its.map it).length = its.length := List.length_map _
  generalize hF : (fun x => ((its2 x).filter (p2 x)).map (f x)) = F at *
  refine ⟨fun i m H' => m = its.length - i ∧ i ≤ its.length ∧ Same H2 H' ∧ ∃ acc, H' q0 = some (.lst acc) ∧ DqAll (hid (q0 :: c.M) H') acc (((its.take i).filter p).flatMap F), ⟨_, rfl, Nat.zero_le _, same_new hq0 _, [], upd_same, .nil⟩, ?_⟩
  rintro i m H' ⟨rfl, hi', s, acc, e1, e2⟩
  have s3 : Same (hid c.M H2) (hid (q0 :: c.M) H') := hid_new hq0 s
  have lv : Live (q0 :: c.M) H' := fun b hb => by
    rcases List.mem_cons.mp hb with rfl | hb
    · rw [e1]; exact fun z => by cases z
    · exact a2.lv.same s b hb
  by_cases hlt : i < its.length
  · refine .inr ⟨ok.go _ i H' s3 lv (by rw [hl]; exact hlt), _, fun H'' z => z, fun v H3 y => ?_⟩
    obtain ⟨s4, itv, f1, f2⟩ := ok.yld _ i H' v H3 s3 lv (by rw [hl]; exact hlt) y
    obtain ⟨x, hx, rfl⟩ : ∃ x, its[i]? = some x ∧ it x = itv := by
      rw [List.getElem?_map] at f1
      cases h : its[i]? with
      | none => rw [h] at f1; cases f1
      | some x => rw [h] at f1; exact ⟨x, rfl, Option.some.inj f1⟩
    have hmem : x ∈ its := List.mem_of_getElem? hx
    have hk := filter_take_succ (p := p) hx
    have A3 : Env c.K (hid (q0 :: c.M) H3) (wipe σ vs) (wipeD ρ vs) := ((a2.env.mono s3).mono (Same.hid s4)).wipe vs
    refine hg x hmem (q0 :: c.M) H3 (wipe σ vs) v _ A3 f2 fun σ' e' w' => ⟨?_, ?_⟩
    · rw [w' vs hj]; exact wipe_wipe fun j hj => hj
    · have at3 : At (c.push q0) H3 σ' (ρ' x) := ⟨a2.gr.trans (Same.gr (s.trans s4)), lv.same s4, e'⟩
      refine ht q0 x hmem H3 σ' at3 _ fun H4 s5 => ?_
      refine ite2 (fun hp => ?_) (fun hp => ?_)
      · have at4 := at3.same s5
        refine hi2 q0 x hmem hp H4 σ' at4 _ fun J1 H5 s6 ok1 => ?_
        have at5 := at4.same s6
        have hl2 : ((its2 x).map (it2 x)).length = (its2 x).length := List.length_map _
        have sh5 := Same.hid (M := q0 :: c.M) (s4.trans (s5.trans s6))
        have s25 : Same H2 H5 := s.trans (s4.trans (s5.trans s6))
        have e5 : H5 q0 = some (.lst acc) := s6 _ _ (s5 _ _ (s4 _ _ e1))
        refine ⟨fun j k Hc => k = (its2 x).length - j ∧ j ≤ (its2 x).length ∧ Same H2 Hc ∧ Gr [q0] H5 Hc ∧ ∃ acc, Hc q0 = some (.lst acc) ∧ DqAll (hid (q0 :: c.M) Hc) acc (((its.take i).filter p).flatMap F ++ (((its2 x).take j).filter (p2 x)).map (f x)),
          ⟨_, rfl, Nat.zero_le _, s25, Gr.refl _ _, acc, e5, by simpa using dqAll_mono sh5 _ _ e2⟩, ?_⟩
        rintro j k Hc ⟨rfl, hj', sc, gc, bcc, c1, c2⟩
        have sh : Same (hid (q0 :: c.M) H5) (hid (q0 :: c.M) Hc) := Gr.hid gc (by intro b hb; simp at hb; rw [hb]; exact List.mem_cons_self)
        have lvc : Live (q0 :: c.M) Hc := fun b hb => by
          rcases List.mem_cons.mp hb with rfl | hb
          · rw [c1]; exact fun z => by cases z
          · exact a2.lv.same sc b hb
        by_cases hlt2 : j < (its2 x).length
        · refine .inr ⟨ok1.go _ j Hc sh lvc (by rw [hl2]; exact hlt2), _, fun H'' z => z, fun v2 H6 y2 => ?_⟩
          obtain ⟨s7, itv2, f3, f4⟩ := ok1.yld _ j Hc v2 H6 sh lvc (by rw [hl2]; exact hlt2) y2
          obtain ⟨y, hy, rfl⟩ : ∃ y, (its2 x)[j]? = some y ∧ it2 x y = itv2 := by
            rw [List.getElem?_map] at f3
            cases h : (its2 x)[j]? with
            | none => rw [h] at f3; cases f3
            | some y => rw [h] at f3; exact ⟨y, rfl, Option.some.inj f3⟩
          have hmem2 : y ∈ its2 x := List.mem_of_getElem? hy
          have hk2 := filter_take_succ (p := p2 x) hy
          have A6 : Env c.K (hid (q0 :: c.M) H6) (wipe σ' vs1) (wipeD (ρ' x) vs1) := ((at5.env.mono sh).mono (Same.hid s7)).wipe vs1
          refine hg2 x hmem y hmem2 (q0 :: c.M) H6 (wipe σ' vs1) v2 _ A6 f4 fun σ2 e2' w2' => ⟨?_, ?_⟩
          · rw [w2' vs1 hj2]; exact wipe_wipe fun j hj => hj
          · have at6 : At (c.push q0) H6 σ2 (ρ2 x y) := ⟨a2.gr.trans (Same.gr (sc.trans s7)), lvc.same s7, e2'⟩
            refine ht2 q0 x y hmem hmem2 hp H6 σ2 at6 _ fun H7 s8 => ?_
            refine ite2 (fun hp2 => ?_) (fun hp2 => ?_)
            · refine he q0 x y hmem hmem2 hp hp2 H7 σ2 (at6.same s8) _ fun w H8 s9 o9 => ?_
              have e8 : H8 q0 = some (.lst bcc) := s9 _ _ (s8 _ _ (s7 _ _ c1))
              have sh8 := Same.hid (M := q0 :: c.M) (s7.trans (s8.trans s9))
              have up : Same (hid (q0 :: c.M) H8) (hid (q0 :: c.M) (upd H8 q0 (.lst (bcc ++ [w])))) := fun b o eb => by
                obtain ⟨h1, h2⟩ := hid_some eb
                rw [hid_out h1, upd_ne fun z => h1 (by rw [z]; exact List.mem_cons_self)]; exact h2
              refine ⟨bcc, e8, ?_, (its2 x).length - (j + 1), by omega, rfl, hlt2, fun b o eb => ?_, fun b o nb eb => ?_, bcc ++ [w], upd_same, ?_⟩
              · have hx2 : its.filter p = (its.take i).filter p ++ x :: ((its.drop (i + 1)).filter p) := by
                  conv => lhs; rw [← List.take_append_drop (i + 1) its]
                  rw [List.filter_append, hk, if_pos hp, List.append_assoc]; rfl
                have hy2 : (its2 x).filter (p2 x) = ((its2 x).take j).filter (p2 x) ++ (((its2 x).drop j).filter (p2 x)) := by
                  conv => lhs; rw [← List.take_append_drop j (its2 x)]
                  rw [List.filter_append]
                have hFx : F x = ((its2 x).filter (p2 x)).map (f x) := by rw [← hF]
                have : bcc.length ≤ ((its.filter p).flatMap F).length := by
                  rw [dqAll_len c2, hx2, List.flatMap_append, List.flatMap_cons, hFx, hy2]
                  simp only [List.length_append, List.length_map]
                  omega
                exact Nat.lt_of_le_of_lt (Nat.le_trans this hz) (by decide)
              · rw [upd_ne (ne_of_none eb hq0)]; exact s9 _ _ (s8 _ _ (s7 _ _ (sc _ _ eb)))
              · rw [upd_ne (by simpa using nb)]; exact s9 _ _ (s8 _ _ (s7 _ _ (gc _ _ nb eb)))
              · rw [hk2, if_pos hp2, List.map_append, ← List.append_assoc]
                exact dqAll_app (dqAll_mono up _ _ (dqAll_mono sh8 _ _ c2)) (.cons (dq_mono up _ _ o9) .nil)
            · have hp' : p2 x y = false := Bool.eq_false_iff.mpr hp2
              refine ⟨(its2 x).length - (j + 1), by omega, rfl, hlt2, sc.trans (s7.trans s8), fun b o nb eb => s8 _ _ (s7 _ _ (gc _ _ nb eb)), bcc, s8 _ _ (s7 _ _ c1), ?_⟩
              rw [hk2, if_neg hp2, List.append_nil]
              exact dqAll_mono (Same.hid (s7.trans s8)) _ _ c2
        · have e : j = (its2 x).length := by omega
          subst e
          refine .inl ⟨ok1.stop _ _ Hc sh lvc (by rw [hl2]; exact Nat.le_refl _), its.length - (i + 1), by omega, rfl, hlt, sc, bcc, c1, ?_⟩
          rw [List.take_length] at c2
          rw [hk, if_pos hp, List.flatMap_append]
          have e6 : [x].flatMap F = ((its2 x).filter (p2 x)).map (f x) := by rw [← hF]; simp
          rw [e6]; exact c2
      · refine ⟨its.length - (i + 1), by omega, rfl, hlt, s.trans (s4.trans s5), acc, s5 _ _ (s4 _ _ e1), ?_⟩
        rw [hk, if_neg hp, List.append_nil]
        exact dqAll_mono (Same.hid (s4.trans s5)) _ _ e2
  · have e : i = its.length := by omega
    subst e
    refine .inl ⟨ok.stop _ _ H' s3 lv (by rw [hl]; exact Nat.le_refl _), q _ H' (s2.trans s) ?_⟩
    rw [List.take_length] at e2
    have hn : q0 ∉ c.M := fun z => by have := a2.lv q0 z; exact this hq0
    exact .lst (by show hid c.M H' q0 = _; rw [hid_out hn]; exact e1) (dqAll_mono hid_cons _ _ e2)
theorem ev_lc2A {wi wi1 : TI} {g g1 : TG} {te : TE} {vs vs1 : List Nat} {α β : Type} {its : List α} {it : α → IV} {its2 : α → List β} {it2 : α → β → IV} {f : α → β → D} {js js2 : List Nat} {ρ' : α → List DV} {ρ2 : α → β → List DV}
    (hi : EvI c wi ρ (its.map it)) (hg : ∀ x ∈ its, GOk c.K js g (it x) (wipeD ρ vs) (ρ' x)) (hj : SubJ js vs)
    (hi2 : ∀ q x, x ∈ its → EvI (c.push q) wi1 (ρ' x) ((its2 x).map (it2 x)))
    (hg2 : ∀ x ∈ its, ∀ y ∈ its2 x, GOk c.K js2 g1 (it2 x y) (wipeD (ρ' x) vs1) (ρ2 x y)) (hj2 : SubJ js2 vs1)
    (he : ∀ q x y, x ∈ its → y ∈ its2 x → EvX (c.push q) te (ρ2 x y) (.d (f x y)))
    (hz : Fits (its.flatMap fun x => (its2 x).map (f x)).length) :
    EvX c (tLc2 wi g tYes wi1 g1 tYes te vs vs1) ρ (.d (.list (its.flatMap fun x => (its2 x).map (f x)))) := by
  have e : its.filter (fun _ => true) = its := by simp
  have e2 : ∀ x, (its2 x).filter (fun _ => true) = its2 x := fun x => by simp
  have := ev_lc2 (p := fun _ => true) (tt := tYes) (p2 := fun _ _ => true) (tt1 := tYes) hi hg hj (fun q x _ => eb_yes) (fun q x hx _ => hi2 q x hx) hg2 hj2 (fun q x y _ _ _ => eb_yes) (fun q x y hx hy _ _ => he q x y hx hy) (by rw [e]; simp only [e2]; exact hz)
  rw [e] at this
  simp only [e2] at this
  exact this
end
end TD
set_option Elab.async false
set_option linter.all false
set_option maxRecDepth 100000
set_option maxHeartbeats 400000
/-! Plain schemes: what the program is to compute, in plain Lean. -/
namespace TP
open PySem TD L2
abbrev W := List Nat
abbrev Sc := List (W × W)
abbrev encP (p : W × W) : D := .tuple [ds p.1, ds p.2]
abbrev encS (s : Sc) : D := .tuple (s.map encP)
abbrev encW (l : List W) : D := .list (l.map ds)
abbrev encO : Option W → D
  | none => .none
  | some w => ds w
def lowers : W := [97, 98, 99, 100, 101, 102, 103, 104, 105, 106, 107, 108, 109, 110, 111, 112, 113, 114, 115, 116, 117, 118, 119, 120, 121, 122]
mutual
def small : D → Prop
  | .str x => x.length ≤ 1000000
  | .list xs => xs.length ≤ 1000000 ∧ smallAll xs
  | .tuple xs => xs.length ≤ 1000000 ∧ smallAll xs
  | _ => True
def smallAll : List D → Prop
  | [] => True
  | x :: xs => small x ∧ smallAll xs
end
theorem smallAll_mem : ∀ {xs : List D} {x : D}, smallAll xs → x ∈ xs → small x
  | _ :: _, _, h, m => by
    rcases List.mem_cons.mp m with rfl | m
    · exact h.1
    · exact smallAll_mem h.2 m
theorem smallAll_of : ∀ {xs : List D}, (∀ x ∈ xs, small x) → smallAll xs
  | [], _ => trivial
  | x :: _, h => ⟨h x List.mem_cons_self, smallAll_of fun y m => h y (List.mem_cons_of_mem _ m)⟩
theorem small_ds {w : W} (h : w.length ≤ 1000000) : small (ds w) := by show (sw w).length ≤ _; rw [sw_len]; exact h
def isStr (v : D) (l m : Int) (p : Nat → Bool) : Bool := match v with
  | .str x => decide (l ≤ ((tl x).length : Int)) && decide (((tl x).length : Int) ≤ m) && (tl x).all p
  | _ => false
def low (c : Nat) : Bool := decide (c ∈ lowers)
def isEntry : D → Bool
  | .tuple [a, b] => isStr a 1 3 low && isStr b 1 3 low
  | _ => false
def srcD : D → W
  | .tuple (.str a :: _) => tl a
  | _ => []
def ascending : List W → Bool
  | a :: b :: r => decide (a < b) && ascending (b :: r)
  | _ => true
def lettersIn (S : List W) : Bool := S.all fun s => s.all fun c => decide ([c] ∈ S)
def isScheme : D → Bool
  | .tuple xs => decide (1 ≤ (xs.length : Int)) && decide ((xs.length : Int) ≤ 10) && xs.all isEntry && ascending (xs.map srcD) && lettersIn (xs.map srcD)
  | _ => false
theorem isEntry_iff {v : D} : isEntry v = true ↔ ∃ p : W × W, v = encP p ∧ 1 ≤ p.1.length ∧ p.1.length ≤ 3 ∧ 1 ≤ p.2.length ∧ p.2.length ≤ 3 ∧ p.1.all low = true ∧ p.2.all low = true := by
  constructor
  · intro h
    unfold isEntry at h
    split at h
    · rename_i a b
      rw [Bool.and_eq_true] at h
      obtain ⟨h1, h2⟩ := h
      unfold isStr at h1 h2
      split at h1
      · split at h2
        · rename_i x _ y
          simp only [Bool.and_eq_true, decide_eq_true_eq] at h1 h2
          refine ⟨(tl x, tl y), by rw [show encP (tl x, tl y) = .tuple [.str (sw (tl x)), .str (sw (tl y))] from rfl, sw_tl, sw_tl], ?_⟩
          refine ⟨?_, ?_, ?_, ?_, h1.2, h2.2⟩ <;> (simp only []; omega)
        · cases h2
      · cases h1
    · cases h
  · rintro ⟨p, rfl, h1, h2, h3, h4, h5, h6⟩
    show (isStr (ds p.1) 1 3 low && isStr (ds p.2) 1 3 low) = true
    unfold isStr
    simp only [tl_sw, Bool.and_eq_true, decide_eq_true_eq]
    refine ⟨⟨⟨?_, ?_⟩, h5⟩, ⟨⟨?_, ?_⟩, h6⟩⟩ <;> omega
/-- a scheme -/
structure Scheme (s : Sc) : Prop where
  one : 1 ≤ s.length
  ten : s.length ≤ 10
  src1 : ∀ p ∈ s, 1 ≤ p.1.length ∧ p.1.length ≤ 3
  tgt1 : ∀ p ∈ s, 1 ≤ p.2.length ∧ p.2.length ≤ 3
  src2 : ∀ p ∈ s, p.1.all low = true
  tgt2 : ∀ p ∈ s, p.2.all low = true
  asc : ascending (s.map (·.1)) = true
  lets : lettersIn (s.map (·.1)) = true
theorem srcD_enc (p : W × W) : srcD (encP p) = p.1 := tl_sw p.1
theorem all_entry {xs : List D} (h : xs.all isEntry = true) : ∃ s : Sc, xs = s.map encP := by
  induction xs with
  | nil => exact ⟨[], rfl⟩
  | cons x xs ih =>
    rw [List.all_cons, Bool.and_eq_true] at h
    obtain ⟨s, hs⟩ := ih h.2
    obtain ⟨p, hp, _⟩ := isEntry_iff.mp h.1
    exact ⟨p :: s, by rw [hp, hs]; rfl⟩
theorem map_src (s : Sc) : (s.map encP).map srcD = s.map (·.1) := by
  rw [List.map_map]; apply List.map_congr_left; intro p _; exact srcD_enc p
theorem isScheme_iff {v : D} : isScheme v = true ↔ ∃ s : Sc, v = encS s ∧ Scheme s := by
  constructor
  · intro h
    unfold isScheme at h
    split at h
    · rename_i xs
      simp only [Bool.and_eq_true, decide_eq_true_eq] at h
      obtain ⟨⟨⟨⟨h1, h2⟩, h3⟩, h4⟩, h5⟩ := h
      obtain ⟨s, rfl⟩ := all_entry h3
      rw [map_src] at h4 h5
      have hm : ∀ p ∈ s, 1 ≤ p.1.length ∧ p.1.length ≤ 3 ∧ 1 ≤ p.2.length ∧ p.2.length ≤ 3 ∧ p.1.all low = true ∧ p.2.all low = true := fun p hp => by
        have := List.all_eq_true.mp h3 (encP p) (List.mem_map_of_mem hp)
        obtain ⟨q, e, g⟩ := isEntry_iff.mp this
        have e1 := congrArg (fun | PyData.tuple [.str a, .str b] => (tl a, tl b) | _ => ([], [])) e
        simp only [tl_sw] at e1
        have : p = q := by cases p; cases q; exact e1
        rw [this]; exact g
      rw [List.length_map] at h1 h2
      exact ⟨s, rfl, by omega, by omega, fun p hp => ⟨(hm p hp).1, (hm p hp).2.1⟩, fun p hp => ⟨(hm p hp).2.2.1, (hm p hp).2.2.2.1⟩, fun p hp => (hm p hp).2.2.2.2.1, fun p hp => (hm p hp).2.2.2.2.2, h4, h5⟩
    · cases h
  · rintro ⟨s, rfl, h⟩
    show (decide (1 ≤ ((s.map encP).length : Int)) && decide (((s.map encP).length : Int) ≤ 10) && (s.map encP).all isEntry && ascending ((s.map encP).map srcD) && lettersIn ((s.map encP).map srcD)) = true
    rw [map_src, h.asc, h.lets, List.length_map]
    have := h.one
    have := h.ten
    simp only [Bool.and_eq_true, decide_eq_true_eq, and_true]
    refine ⟨⟨by omega, by omega⟩, List.all_eq_true.mpr fun x hx => ?_⟩
    obtain ⟨p, hp, rfl⟩ := List.mem_map.mp hx
    exact isEntry_iff.mpr ⟨p, rfl, (h.src1 p hp).1, (h.src1 p hp).2, (h.tgt1 p hp).1, (h.tgt1 p hp).2, h.src2 p hp, h.tgt2 p hp⟩
/-! tables, longest, split, mapped -/
abbrev Tb := List (W × W)
def get (t : Tb) (k : W) : Option W := (t.find? fun p => decide (p.1 = k)).map (·.2)
abbrev encT (t : Tb) : List (Key × D) := t.map fun p => (Sum.inr (sw p.1), ds p.2)
def longestN (t : Tb) (x : W) : Nat → Option W
  | 0 => none
  | n + 1 => if (get t (x.take (n + 1))).isSome then some (x.take (n + 1)) else longestN t x n
def longest (t : Tb) (x : W) : Option W := longestN t x (min 3 x.length)
theorem longestN_le {t : Tb} {x k : W} : ∀ {n : Nat}, longestN t x n = some k → n ≤ x.length → ∃ m, 1 ≤ m ∧ m ≤ n ∧ k = x.take m ∧ (get t k).isSome = true
  | 0, h, _ => by cases h
  | n + 1, h, hn => by
    unfold longestN at h
    split at h
    · rename_i g
      cases h
      exact ⟨n + 1, by omega, by omega, rfl, g⟩
    · obtain ⟨m, h1, h2, h3⟩ := longestN_le h (by omega)
      exact ⟨m, h1, by omega, h3⟩
theorem longest_len {t : Tb} {x k : W} (h : longest t x = some k) : 1 ≤ k.length ∧ k.length ≤ x.length ∧ k.length ≤ 3 ∧ k = x.take k.length ∧ (get t k).isSome = true := by
  obtain ⟨m, h1, h2, h3, h4⟩ := longestN_le h (Nat.min_le_right _ _)
  have e : k.length = m := by rw [h3, List.length_take]; omega
  rw [e]
  exact ⟨h1, by omega, by omega, h3, h4⟩
def split (t : Tb) (x : W) : Option (List W) :=
  if h : x = [] then some [] else
    match e : longest t x with
    | none => none
    | some k => (split t (x.drop k.length)).map (k :: ·)
termination_by x.length
decreasing_by
  have := longest_len e
  rw [List.length_drop]
  omega
theorem split_nil {t : Tb} : split t [] = some [] := by unfold split; simp
theorem split_none {t : Tb} {x : W} (hx : x ≠ []) (e : longest t x = none) : split t x = none := by
  rw [split, dif_neg hx]
  split
  · rfl
  · rename_i k e2; rw [e] at e2; cases e2
theorem split_some {t : Tb} {x k : W} (hx : x ≠ []) (e : longest t x = some k) : split t x = (split t (x.drop k.length)).map (k :: ·) := by
  rw [split, dif_neg hx]
  split
  · rename_i e2; rw [e] at e2; cases e2
  · rename_i k2 e2; rw [e] at e2; cases e2; rfl
def val (t : Tb) (k : W) : W := (get t k).getD []
def mapped (t : Tb) (x : W) : Option W := (split t x).map fun ps => (ps.map (val t)).flatten
theorem split_mem {t : Tb} : ∀ (n : Nat) {x : W} {ps : List W}, x.length ≤ n → split t x = some ps → ∀ k ∈ ps, (get t k).isSome = true ∧ 1 ≤ k.length
  | n, x, ps, hn, h, k, hk => by
    by_cases hx : x = []
    · subst hx; rw [split_nil] at h; cases h; simp at hk
    · cases e : longest t x with
      | none => rw [split_none hx e] at h; cases h
      | some q =>
        rw [split_some hx e] at h
        obtain ⟨r, hr, rfl⟩ := Option.map_eq_some_iff.mp h
        have l := longest_len e
        rcases List.mem_cons.mp hk with rfl | hk
        · exact ⟨l.2.2.2.2, l.1⟩
        · cases n with
          | zero => omega
          | succ n => exact split_mem n (by rw [List.length_drop]; omega) hr k hk
theorem split_len {t : Tb} : ∀ (n : Nat) {x : W} {ps : List W}, x.length ≤ n → split t x = some ps → ps.length ≤ x.length ∧ ps.flatten = x
  | n, x, ps, hn, h => by
    by_cases hx : x = []
    · subst hx; rw [split_nil] at h; cases h; simp
    · cases e : longest t x with
      | none => rw [split_none hx e] at h; cases h
      | some q =>
        rw [split_some hx e] at h
        obtain ⟨r, hr, rfl⟩ := Option.map_eq_some_iff.mp h
        have l := longest_len e
        cases n with
        | zero => omega
        | succ n =>
          have := split_len n (by rw [List.length_drop]; omega) hr
          rw [List.length_drop] at this
          refine ⟨by rw [List.length_cons]; omega, ?_⟩
          rw [List.flatten_cons, this.2]
          have e2 := l.2.2.2.1
          conv => lhs; lhs; rw [e2]
          exact List.take_append_drop _ _
/-- the tables of a scheme -/
def put (t : Tb) (k v : W) : Tb := if (t.any fun p => decide (p.1 = k)) = true then t.map (fun p => if p.1 = k then (p.1, v) else p) else t ++ [(k, v)]
def writeT (s : Sc) : Tb := s.foldl (fun t p => put t p.1 p.2) []
def setd (t : Tb) (k v : W) : Tb := if (get t k).isSome then t else t ++ [(k, v)]
def readT (s : Sc) : Tb := s.foldl (fun t p => setd t p.2 p.1) []
theorem key_inj {a b : W} : ((Sum.inr (sw a) : Key) = .inr (sw b)) ↔ a = b := ⟨fun h => sw_inj (Sum.inr.inj h), fun h => by rw [h]⟩
theorem kget_enc (t : Tb) (k : W) : kget (encT t) (Sum.inr (sw k)) = (get t k).map ds := by
  unfold kget get encT
  induction t with
  | nil => rfl
  | cons p t ih =>
    rw [List.map_cons, List.find?_cons, List.find?_cons]
    have e : (decide ((Sum.inr (sw p.1) : Key) = .inr (sw k))) = decide (p.1 = k) := decide_eq_decide.mpr key_inj
    rw [e]
    cases decide (p.1 = k) with
    | true => rfl
    | false => exact ih
theorem kput_enc (t : Tb) (k v : W) : kput (encT t) (Sum.inr (sw k)) (ds v) = encT (put t k v) := by
  unfold kput put
  have e : ((encT t).any fun kv => decide (kv.1 = (Sum.inr (sw k) : Key))) = t.any fun p => decide (p.1 = k) := by
    rw [List.any_map]; congr 1; funext p; exact decide_eq_decide.mpr key_inj
  rw [e]
  split
  · show ((t.map _).map _) = (t.map _).map _
    rw [List.map_map, List.map_map]
    apply List.map_congr_left
    intro p _
    show (if (Sum.inr (sw p.1) : Key) = .inr (sw k) then _ else _) = _
    by_cases q : p.1 = k
    · have q' := key_inj.mpr q
      simp [q]
    · have q' : ¬ ((Sum.inr (sw p.1) : Key) = .inr (sw k)) := fun z => q (key_inj.mp z)
      rw [if_neg q']
      simp [q]
  · show (t.map _) ++ _ = (t ++ _).map _
    rw [List.map_append]; rfl
theorem kmerge_enc (t : Tb) (s : Sc) : kmerge (encT t) (s.map fun p => ((Sum.inr (sw p.1) : Key), ds p.2)) = encT (s.foldl (fun t p => put t p.1 p.2) t) := by
  unfold kmerge
  induction s generalizing t with
  | nil => rfl
  | cons p s ih =>
    rw [List.map_cons, List.foldl_cons, List.foldl_cons, ← ih (put t p.1 p.2), ← kput_enc]
theorem encS_pairs (s : Sc) : encS s = .tuple ((s.map fun p => ((Sum.inr (sw p.1) : Key), ds p.2)).map pairD) := by
  rw [List.map_map]; rfl
end TP
namespace TP
open PySem TD L2
def letters (s : Sc) : List W := (s.filter fun p => decide (p.1.length = 1)).map (·.1)
def isWord (s : Sc) (v : D) : Bool := isStr v 0 40 fun c => decide ([c] ∈ letters s)
def isText (v : D) : Bool := isStr v 0 40 low
theorem Scheme.small {s : Sc} (h : Scheme s) : small (encS s) := by
  refine ⟨by rw [List.length_map]; have := h.ten; omega, smallAll_of fun x hx => ?_⟩
  obtain ⟨p, hp, rfl⟩ := List.mem_map.mp hx
  refine ⟨by show 2 ≤ _; decide, ⟨small_ds (by have := h.src1 p hp; omega), small_ds (by have := h.tgt1 p hp; omega), trivial⟩⟩
end TP
namespace TP
open PySem TD L2
theorem encP_inj {p q : W × W} (e : encP p = encP q) : p = q := by
  have e1 := congrArg (fun | PyData.tuple [.str a, .str b] => (tl a, tl b) | _ => ([], [])) e
  simp only [tl_sw] at e1
  cases p; cases q; exact e1
theorem all_asc (S : List W) : ((S.zip S.tail).all fun x => decide (x.1 < x.2)) = ascending S := by
  induction S with
  | nil => rfl
  | cons a S ih =>
    cases S with
    | nil => rfl
    | cons b S =>
      show (decide (a < b) && (((b :: S).zip S).all fun x => decide (x.1 < x.2))) = (decide (a < b) && ascending (b :: S))
      rw [← ih]; rfl
end TP
namespace TP
open PySem TD L2
theorem isScheme_tup (xs : List D) : isScheme (.tuple xs) = (decide (1 ≤ (xs.length : Int)) && decide ((xs.length : Int) ≤ 10) && xs.all isEntry && ascending (xs.map srcD) && lettersIn (xs.map srcD)) := rfl
theorem all_lets (S : List W) : ((S.flatMap fun s => s.map fun c => decide ([c] ∈ S)).all id) = lettersIn S := by
  unfold lettersIn
  rw [List.all_flatMap]
  congr 1
  funext s
  rw [List.all_map]; rfl
end TP
namespace TP
open PySem TD L2
theorem sum_le {l : List Nat} {b : Nat} (h : ∀ x ∈ l, x ≤ b) : l.sum ≤ l.length * b := by
  induction l with
  | nil => simp
  | cons a l ih =>
    have := ih fun x hx => h x (List.mem_cons_of_mem _ hx)
    have := h a List.mem_cons_self
    rw [List.sum_cons, List.length_cons, Nat.add_mul]; omega
theorem flat_le {l : List W} {b : Nat} (h : ∀ x ∈ l, x.length ≤ b) : l.flatten.length ≤ l.length * b := by
  rw [List.length_flatten]
  have := sum_le (l := l.map List.length) (b := b) fun x hx => by
    obtain ⟨y, hy, rfl⟩ := List.mem_map.mp hx
    exact h y hy
  rwa [List.length_map] at this
end TP
set_option Elab.async false
set_option linter.all false
set_option maxRecDepth 100000
set_option maxHeartbeats 400000
/-! Exceptions by name, typed sequences. -/
namespace TD
open PySem PySem.Spec PyProof.Rows L2 TP
def xa (mg : Str → Option Value) (x : Str) : Addr := match mg x with
  | some (.ref a) => a
  | _ => 0
/-- an own exception class of the module -/
structure ExcT (K : PySem.W.Frag) (mg : Str → Option Value) (x : Str) : Prop where
  g : mg x = some (.ref (xa mg x))
  q : PySem.W.excIn K (xa mg x) [.type "ValueError", .type "Exception", .type "BaseException", .type "object"] "ValueError.__new__" = true
  k : PySem.W.keepIn K (.ref (xa mg x)) = true
  b : PySem.W.subIn K (.ref (xa mg x)) (.type "BaseException") = some true
  t : PySem.W.typeIn K (.ref (xa mg x)) = some (.type "type")
  i : PySem.W.isClsIn K (xa mg x) = true
/-- what "except y" says of an x -/
theorem ExcT.exm {K : PySem.W.Frag} {mg : Str → Option Value} {x y : Str} {b : Bool} (T : ExcT K mg x) (U : ExcT K mg y) (h4 : PySem.W.subIn K (.ref (xa mg x)) (.ref (xa mg y)) = some b) : PySem.W.exmOne K (.ref (xa mg x)) (.ref (xa mg y)) = some b := by
  have e1 : (PySem.W.subIn K (.ref (xa mg y)) (.type "BaseException") == some true) = true := by rw [U.b] <;> rfl
  have e2 : ((PySem.W.clsIn K (xa mg y)).isSome && PySem.W.typeIn K (.ref (xa mg y)) == some (.type "type")) = true := by
    have h2' : (PySem.W.clsIn K (xa mg y)).isSome = true := U.i
    rw [h2', U.t] <;> rfl
  show (if (PySem.W.subIn K (.ref (xa mg y)) (.type "BaseException") == some true) = true then (if ((PySem.W.clsIn K (xa mg y)).isSome && PySem.W.typeIn K (.ref (xa mg y)) == some (.type "type")) = true then PySem.W.subIn K (.ref (xa mg x)) (.ref (xa mg y)) else none) else none) = some b
  rw [if_pos e1, if_pos e2]
  exact h4
theorem ExcT.of {K : PySem.W.Frag} {mg : Str → Option Value} {x : Str} {C : Addr} (hm : Left K mg) (a : PySem.W.nsIn K mainGlobals x = some (some (.ref C))) (q : PySem.W.excIn K C [.type "ValueError", .type "Exception", .type "BaseException", .type "object"] "ValueError.__new__" = true)
    (k : PySem.W.keepIn K (.ref C) = true) (b : PySem.W.subIn K (.ref C) (.type "BaseException") = some true) (t : PySem.W.typeIn K (.ref C) = some (.type "type")) (i : PySem.W.isClsIn K C = true) : ExcT K mg x := by
  have g := hm x _ a
  have e : xa mg x = C := by unfold xa; rw [g]
  exact ⟨by rw [e]; exact g, by rw [e]; exact q, by rw [e]; exact k, by rw [e]; exact b, by rw [e]; exact t, by rw [e]; exact i⟩
theorem xa_of {K : PySem.W.Frag} {mg : Str → Option Value} {x : Str} {C : Addr} (hm : Left K mg) (a : PySem.W.nsIn K mainGlobals x = some (some (.ref C))) : xa mg x = C := by
  unfold xa; rw [hm x _ a]
theorem ExcT.pmk {X : Cx} {x : Str} {p pos : Pos} (T : ExcT X.K X.mg x) (hg : Gl X x) (hdb : (x == ("__debug__" : Str)) = false := by decide) : L2N.PMk X (.Call (.Name x p) [] [] pos) (fun _ H Q => Q (.ref (xa X.mg x)) none H) :=
  pmk_own0 PySem.F.excBase_ValueError T.q T.g T.k (raises_own T.b T.t) hg hdb
theorem pe_gInt {X : Cx} {x : Str} {i : Int} {pos : Pos} (hg : Gl X x) (h : ∃ t, X.mg x = some (Value.int i t)) (hd : (x == ("__debug__" : Str)) = false := by decide) : PE X (.Name x pos) (tC (.int i)) := by
  obtain ⟨t, h⟩ := h; exact pe_glob hg h ⟨t, rfl⟩ hd
theorem pe_gStr {X : Cx} {x : Str} {l : List Nat} {pos : Pos} (hg : Gl X x) (h : ∃ t, X.mg x = some (Value.str (sw l) t)) (hd : (x == ("__debug__" : Str)) = false := by decide) : PE X (.Name x pos) (tC (.str (sw l))) := by
  obtain ⟨t, h⟩ := h; exact pe_glob hg h ⟨t, rfl⟩ hd
section
variable {c : Cz} {K : PySem.W.Frag} {ρ : List DV} {te ta tb td : TE} {tt tu : TT} {i : Nat}
theorem cut_map {α β : Type} (f : α → β) (xs : List α) (lo hi : Option Int) : cutL (xs.map f) lo hi = (cutL xs lo hi).map f := by
  unfold cutL
  rw [List.length_map, List.map_take, List.map_drop]
theorem SlX.lm {α : Type} {xs : List α} {enc : α → D} {lo hi : Option Int} : SlX (.d (.list (xs.map enc))) lo hi (.d (.list ((cutL xs lo hi).map enc))) := by
  rw [← cut_map]; exact .l
theorem SlX.tm {α : Type} {xs : List α} {enc : α → D} {lo hi : Option Int} : SlX (.d (.tuple (xs.map enc))) lo hi (.d (.tuple ((cutL xs lo hi).map enc))) := by
  rw [← cut_map]; exact .t
theorem zip_maps {α β γ δ : Type} (f : α → γ) (g : β → δ) (xs : List α) (ys : List β) : (xs.map f).zip (ys.map g) = (xs.zip ys).map fun p => (f p.1, g p.2) := by
  induction xs generalizing ys with
  | nil => rfl
  | cons x xs ih =>
    cases ys with
    | nil => rfl
    | cons y ys => rw [List.map_cons, List.map_cons, List.zip_cons_cons, ih, List.zip_cons_cons, List.map_cons]
theorem ZipX.lm {α β : Type} {xs : List α} {ys : List β} {f : α → D} {g : β → D} : ZipX [.d (.list (xs.map f)), .d (.list (ys.map g))] ((xs.zip ys).map fun p => .pr (f p.1) (g p.2)) := by
  have := ZipX.l (xs := xs.map f) (ys := ys.map g)
  rw [zip_maps, List.map_map] at this
  exact this
theorem ZipX.tm {α β : Type} {xs : List α} {ys : List β} {f : α → D} {g : β → D} : ZipX [.d (.tuple (xs.map f)), .d (.tuple (ys.map g))] ((xs.zip ys).map fun p => .pr (f p.1) (g p.2)) := by
  have := ZipX.t (xs := xs.map f) (ys := ys.map g)
  rw [zip_maps, List.map_map] at this
  exact this
theorem cut_tail {α : Type} (xs : List α) (h : xs.length ≤ 1000000) : cutL xs (some 1) none = xs.tail := by
  unfold cutL HT.sIx
  cases xs with
  | nil => rfl
  | cons x xs => simp
theorem rc_lenLm {α : Type} {xs : List α} {f : α → D} : RCX c (rLenU K) [.d (.list (xs.map f))] (.d (.int xs.length)) := by
  have := rc_lenL (c := c) (K := K) (xs := xs.map f); rw [List.length_map] at this; exact this
theorem rc_lenTm {α : Type} {xs : List α} {f : α → D} : RCX c (rLenU K) [.d (.tuple (xs.map f))] (.d (.int xs.length)) := by
  have := rc_lenT (c := c) (K := K) (xs := xs.map f); rw [List.length_map] at this; exact this
theorem rx_inLm {α : Type} {g : Bool → Bool} {d : D} {xs : List α} {f : α → D} (h : min (PyData.depthAll (xs.map f)) d.depth ≤ 60) : RX c (rInU g) (.d d) (.d (.list (xs.map f))) (.d (.bool (g (xs.any fun z => PyData.eqv (f z) d)))) := by
  have := rx_inList (c := c) (g := g) (d := d) (xs := xs.map f) h; rw [List.any_map] at this; exact this
theorem eqv_ds (a b : W) : PyData.eqv (ds a) (ds b) = decide (a = b) := by
  have e : PyData.eqv (ds a) (ds b) = decide (sw a = sw b) := by rw [Bool.eq_iff_iff]; simp [ds, PyData.eqv]
  rw [e]
  exact decide_eq_decide.mpr ⟨sw_inj, fun h => by rw [h]⟩
theorem any_ds (l : List W) (a : W) : (l.any fun z => PyData.eqv (ds z) (ds a)) = decide (a ∈ l) := by
  induction l with
  | nil => rfl
  | cons b l ih =>
    rw [List.any_cons, ih, eqv_ds]
    by_cases h : b = a
    · subst h; simp
    · have h' : ¬ a = b := fun z => h z.symm
      simp [h, h']
theorem rx_inW {g : Bool → Bool} {a : W} {l : List W} : RX c (rInU g) (.d (ds a)) (.d (.list (l.map ds))) (.d (.bool (g (decide (a ∈ l))))) := by
  have := rx_inLm (c := c) (g := g) (d := ds a) (xs := l) (f := ds) (Nat.le_trans (Nat.min_le_right _ _) (Nat.zero_le _))
  rw [any_ds] at this; exact this
theorem rx_eqW {a b : W} : RX c rEqQ (.d (ds a)) (.d (ds b)) (.d (.bool (decide (a = b)))) := by
  have := rx_eq (c := c) (d := ds a) (e := ds b) (Nat.le_trans (Nat.min_le_right _ _) (Nat.zero_le _))
  rw [eqv_ds] at this; exact this
theorem rx_neW {a b : W} : RX c rNeQ (.d (ds a)) (.d (ds b)) (.d (.bool (!decide (a = b)))) := by
  have := rx_ne (c := c) (d := ds a) (e := ds b) (Nat.le_trans (Nat.min_le_right _ _) (Nat.zero_le _))
  rw [eqv_ds] at this; exact this
theorem rx_eqI {a b : Int} : RX c rEqQ (.d (.int a)) (.d (.int b)) (.d (.bool (decide (a = b)))) := by
  have := rx_eq (c := c) (d := .int a) (e := .int b) (Nat.le_trans (Nat.min_le_right _ _) (Nat.zero_le _))
  have e : PyData.eqv (.int a) (.int b) = decide (a = b) := by rw [Bool.eq_iff_iff]; simp [PyData.eqv]
  rw [e] at this; exact this
theorem rx_neI {a b : Int} : RX c rNeQ (.d (.int a)) (.d (.int b)) (.d (.bool (!decide (a = b)))) := by
  have := rx_ne (c := c) (d := .int a) (e := .int b) (Nat.le_trans (Nat.min_le_right _ _) (Nat.zero_le _))
  have e : PyData.eqv (.int a) (.int b) = decide (a = b) := by rw [Bool.eq_iff_iff]; simp [PyData.eqv]
  rw [e] at this; exact this
theorem rx_inTbl {g : Bool → Bool} {t : Tb} {a : W} : RX c (rInU g) (.d (ds a)) (.k (encT t)) (.d (.bool (g (get t a).isSome))) := by
  have := rx_inDict (c := c) (g := g) (x := sw a) (kvs := encT t)
  rw [kget_enc, Option.isSome_map] at this; exact this
theorem SubX.tbl {t : Tb} {a v : W} (h : get t a = some v) : SubX (.k (encT t)) (.d (ds a)) (.d (ds v)) := .k (by rw [kget_enc, h]; rfl)
theorem ev_andF {x : Bool} (h1 : EvX c ta ρ (.d (.bool x))) (e : x = false) : EvX c (tAndV ta tb) ρ (.d (.bool false)) := EvX.is (ev_andV (b := false) h1 fun h => by rw [e] at h; cases h) (by rw [e]; rfl)
theorem ev_orT {x : Bool} (h1 : EvX c ta ρ (.d (.bool x))) (e : x = true) : EvX c (tOrV ta tb) ρ (.d (.bool true)) := EvX.is (ev_orV (b := true) h1 fun h => by rw [e] at h; cases h) (by rw [e]; rfl)
theorem eb_andF {x : Bool} (h1 : EvB c tt ρ x) (e : x = false) : EvB c (tAnd tt tu) ρ false := EvB.is (eb_and (b := false) h1 fun h => by rw [e] at h; cases h) (by rw [e]; rfl)
theorem eb_orT {x : Bool} (h1 : EvB c tt ρ x) (e : x = true) : EvB c (tOr tt tu) ρ true := EvB.is (eb_or (b := true) h1 fun h => by rw [e] at h; cases h) (by rw [e]; rfl)
theorem eo_neg {te : TE} {k : Int} (h : EvX c te ρ (.d (.int k))) : EvO c (tPart te) ρ (some k) := eo_some h
end
end TD
set_option Elab.async false
set_option linter.all false
set_option maxRecDepth 100000
set_option maxHeartbeats 400000
/-! Dicts that change, hidden. -/
namespace TD
open PySem PySem.Spec PyProof.Rows L2 TP
section
variable {K : PySem.W.Frag} {M : List Addr} {H : Hp} {σ : L2.St} {ρ : List DV} {D : Ends} {te td ty tx : TE} {tz : TS} {i : Nat}
/-- at p stands a dict of keys, hidden -/
def MK (M : List Addr) (H : Hp) (p : Addr) (kvs : List (Key × PyData)) : Prop := p ∈ M ∧ ∃ kv, H p = some (.dK kv) ∧ KD (hid M H) kv kvs
theorem MK.same {H' : Hp} {p : Addr} {xs : List (Key × PyData)} (h : MK M H p xs) (s : Same H H') : MK M H' p xs := ⟨h.1, let ⟨vs, a, b⟩ := h.2; ⟨vs, s _ _ a, b.mono (Same.hid s)⟩⟩
theorem hid_less {M' : List Addr} (hs : ∀ m ∈ M', m ∈ M) : Same (hid M H) (hid M' H) := fun c o e => by
  obtain ⟨h1, h2⟩ := hid_some e
  rw [hid_out fun z => h1 (hs c z)]; exact h2
theorem MK.data {M' : List Addr} {p : Addr} {xs : List (Key × PyData)} (h : MK M H p xs) (hs : ∀ m ∈ M', m ∈ M) (hp : p ∉ M') : VOk K (hid M' H) (.ref p) (.k xs) := by
  obtain ⟨_, vs, a, b⟩ := h
  exact ⟨p, vs, rfl, by rw [hid_out hp]; exact a, b.mono (hid_less hs)⟩
/-- p = {} -/
theorem q_newK (s : Sta K M H σ ρ) (k : ∀ p σ' H', H p = none → p ∉ M → Same (hid M H) (hid (p :: M) H') → Same H H' → Sta K (p :: M) H' σ' (ρ.set i (.v (.ref p))) → MK (p :: M) H' p [] → tz D σ' H') : tSeq (tAsg tDNewK (gName i)) tz D σ H := fun p hp => by
  have nm : p ∉ M := s.lv.new hp
  have sn := same_new hp (HO.dK [])
  have st3 := s.push (o := .dK []) hp
  exact k p _ _ hp nm (hid_new hp sn) sn (st3.set (x := .v (.ref p)) rfl) ⟨List.mem_cons_self, [], upd_same, .nil⟩
/-- a dict made by an expression, hidden from now on -/
theorem MK.hide {p : Addr} {xs : List (Key × PyData)} (s : Sta K M H σ ρ) (h : H p = some (.dK [])) : True := trivial
def kset (kvs : List (Key × PyData)) (k : Key) (v : PyData) : List (Key × PyData) := if (kget kvs k).isSome then kvs else kput kvs k v
/-- p.setdefault(e, f) -/
theorem s_setd {x : Str} {y : PyData} {p : Addr} {kvs : List (Key × PyData)} (s : Sta K M H σ ρ) (m : MK M H p kvs) (ho : EvX (cz K M H) td ρ (.v (.ref p))) (he : EvX (cz K M H) ty ρ (.d (.str x))) (hf : EvX (cz K M H) tx ρ (.d y)) (hz : kvs.length ≤ 1000000)
    (k : ∀ H', Same (hid M H) (hid M H') → Gr [p] H H' → Sta K M H' σ ρ → MK M H' p (kset kvs (.inr x) y) → D.nx σ H') : tDrop (tDSetd td ty tx) D σ H :=
  ho H σ s.at _ fun v H2 s2 o2 => by
    obtain rfl : v = V.ref p := o2
    have m2 := m.same s2
    obtain ⟨_, kv2, a, b⟩ := m2
    refine ⟨p, rfl, .inl ⟨kv2, .inl a⟩, he H2 σ (s.at.same s2) _ fun u H3 s3 o3 => hf H3 σ ((s.at.same s2).same s3) _ fun w H4 s4 o4 => ?_⟩
    have m4 := ((m.same s2).same s3).same s4
    obtain ⟨mp, kv, a4, b4⟩ := m4
    have hl : kv.length ≤ 1000000 := by rw [Paired.length b4]; exact hz
    refine ⟨kv, .inr x, a4, dq_str o3, Nat.lt_of_le_of_lt hl (by decide), fun v0 hv => ?_, fun hn => ?_⟩
    · rcases kd_get b4 (.inr x) with ⟨v1, d1, e1, e2, e3⟩ | ⟨e1, e2⟩
      · exact k H4 (Same.hid (s2.trans (s3.trans s4))) (Same.gr (s2.trans (s3.trans s4))) (((s.same s2).same s3).same s4) ⟨mp, kv, a4, by unfold kset; rw [e2]; exact b4⟩
      · rw [e1] at hv; cases hv
    · rcases kd_get b4 (.inr x) with ⟨v1, d1, e1, e2, e3⟩ | ⟨e1, e2⟩
      · rw [hn] at e1; cases e1
      · have e : hid M (upd H4 p (.dK (putK kv (.inr x) w))) = hid M H4 := hid_upd_in mp
        refine k _ (by rw [e]; exact Same.hid (s2.trans (s3.trans s4))) (fun b o n eb => ?_) ((((s.same s2).same s3).same s4).write mp) ⟨mp, _, upd_same, by rw [e]; unfold kset; rw [e2]; exact kd_put b4 _ o4⟩
        rw [upd_ne (by simpa using n)]; exact s4 _ _ (s3 _ _ (s2 _ _ eb))
/-- p[e] = f -/
theorem s_dput {x : Str} {y : PyData} {p : Addr} {kvs : List (Key × PyData)} (s : Sta K M H σ ρ) (m : MK M H p kvs) (ho : EvX (cz K M H) td ρ (.v (.ref p))) (he : EvX (cz K M H) ty ρ (.d (.str x))) (hf : EvX (cz K M H) tx ρ (.d y)) (hz : kvs.length ≤ 1000000)
    (k : ∀ H', Same (hid M H) (hid M H') → Gr [p] H H' → Sta K M H' σ ρ → MK M H' p (kput kvs (.inr x) y) → D.nx σ H') : sDPut td ty tx D σ H :=
  hf H σ s.at _ fun w H2 s2 o2 => ho H2 σ (s.at.same s2) _ fun v H3 s3 o3 => he H3 σ ((s.at.same s2).same s3) _ fun u H4 s4 o4 => by
    obtain rfl : v = V.ref p := o3
    have m4 := ((m.same s2).same s3).same s4
    obtain ⟨mp, kv, a4, b4⟩ := m4
    have hl : kv.length ≤ 1000000 := by rw [Paired.length b4]; exact hz
    have ek := dq_str o4
    subst ek
    refine ⟨p, _, rfl, DPut.k (k := Sum.inr x) a4 (Nat.lt_of_le_of_lt hl (by decide)), ?_⟩
    have e : hid M (upd H4 p (.dK (putK kv (.inr x) w))) = hid M H4 := hid_upd_in mp
    refine k _ (by rw [e]; exact Same.hid (s2.trans (s3.trans s4))) (fun b o n eb => ?_) ((((s.same s2).same s3).same s4).write mp) ⟨mp, _, upd_same, by rw [e]; exact kd_put b4 _ (dq_mono (Same.hid (s3.trans s4)) _ _ o2)⟩
    rw [upd_ne (by simpa using n)]; exact s4 _ _ (s3 _ _ (s2 _ _ eb))
theorem q_dput {x : Str} {y : PyData} {p : Addr} {kvs : List (Key × PyData)} (s : Sta K M H σ ρ) (m : MK M H p kvs) (ho : EvX (cz K M H) td ρ (.v (.ref p))) (he : EvX (cz K M H) ty ρ (.d (.str x))) (hf : EvX (cz K M H) tx ρ (.d y)) (hz : kvs.length ≤ 1000000)
    (k : ∀ H', Same (hid M H) (hid M H') → Gr [p] H H' → Sta K M H' σ ρ → MK M H' p (kput kvs (.inr x) y) → tz D σ H') : tSeq (sDPut td ty tx) tz D σ H := s_dput (D := { D with nx := tz D }) s m ho he hf hz k
/-- return of a hidden thing -/
theorem s_retV {M' : List Addr} {x : V} {y : DV} {te : TE} (s : Sta K M H σ ρ) (h : EvX (cz K M H) te ρ (.v x)) (k : ∀ H', Same H H' → VOk K (hid M' H') x y) (r : ∀ v H', Same H H' → VOk K (hid M' H') v y → D.rt v H') : tRet te D σ H := h H σ s.at _ fun v H2 s2 o2 => by
  obtain rfl : v = x := o2
  exact r v H2 s2 (k H2 s2)
/-- what was hidden within is dropped: a caller's heap stands -/
theorem same_of_hid {M' : List Addr} {H' : Hp} (h : Same (hid M H) (hid M H')) (g : Gr M H H') (n : ∀ m ∈ M, H m ≠ none → m ∈ M' ∧ H' m = H m) : True := trivial
/-- a hidden new thing at p: outside of p all stands -/
theorem gr_new {p : Addr} {H1 H2 : Hp} (hp : H p = none) (s : Same H H1) (g : Gr [p] H1 H2) : Same H H2 := fun b o e => g b o (by simp; exact ne_of_none e hp) (s b o e)
end
section
variable {c : Cz} {K : PySem.W.Frag}
theorem rc_dictS {s : Sc} : RCX c (rDictP K) [.d (encS s)] (.k (encT (writeT s))) := by
  have := rc_dictT (c := c) (K := K) (kvs := s.map fun p => ((Sum.inr (sw p.1) : Key), ds p.2))
  rw [← encS_pairs] at this
  have e := kmerge_enc [] s
  have e2 : (encT ([] : Tb)) = [] := rfl
  rw [e2] at e
  rw [e] at this
  exact this
theorem kset_enc (t : Tb) (k v : W) : kset (encT t) (.inr (sw k)) (ds v) = encT (setd t k v) := by
  unfold kset setd
  rw [kget_enc, Option.isSome_map]
  split
  · rfl
  · rename_i h
    rw [kput_enc]
    unfold put
    have : (t.any fun p => decide (p.1 = k)) = false := by
      unfold TP.get at h
      rw [Option.isSome_map] at h
      rw [List.any_eq_false]
      intro x hx he
      apply h
      rw [List.find?_isSome]
      exact ⟨x, hx, he⟩
    rw [this]; rfl
end
end TD
set_option Elab.async false
set_option linter.all false
set_option maxRecDepth 100000
set_option maxHeartbeats 400000
/-! The rules with the written part told by name. -/
namespace TD
open PySem PySem.Spec PyProof.Rows L2 TP
section
variable {X : Cx} {K : PySem.W.Frag} {e o a b : Expr} {es : List Expr} {ta tb te to : TE} {pos : Pos}
theorem CallR.k {f : Value} {r : PySem.W.Frag → List V → Hp → VK → Prop} (h : CallR X f (r X.K)) (hK : X.K = K) : CallR X f (r K) := hK ▸ h
theorem OpR.k {f : Value → Value → Sem Value} {r : PySem.W.Frag → R2} (h : OpR X f (r X.K)) (hK : X.K = K) : OpR X f (r K) := hK ▸ h
theorem SlR.k {r : PySem.W.Frag → V → Option Int → Option Int → Hp → VK → Prop} (h : SlR X (r X.K)) (hK : X.K = K) : SlR X (r K) := hK ▸ h
theorem k_sub (hu : X.A.units + 64 < cLine) (hK : X.K = K) (ha : PE X a ta) (hb : PE X b tb) (hs : PlainIx b) : PE X (.Subscript a b pos) (tSub K ta tb) := hK ▸ pe_sub hu ha hb hs
theorem ki_seq {tg : Expr} (hK : X.K = K) (h : PE X e te) : PI X tg e (iSeq K te) := hK ▸ pi_seq h
theorem ki_zip {e2 : Expr} {ta : TA} {p tpos : Pos} {elts : List Expr} {kk : Nat} (hK : X.K = K) (hg : Gl X "zip") (hm : X.mg "zip" = none) (ha : PA X [e, e2] ta)
    (hs : starEach [e, e2] X.env = (false, eval e X.env) :: starEach [e2] X.env := by rfl) (hpl : (backTo pos (starEach [e2] X.env)).any (·.1) = false := by rfl) :
    PI X (.Tuple elts kk tpos) (.Call (.Name "zip" p) [e, e2] [] pos) (RZ.iZipA K ta) := hK ▸ RZ.pi_zipA hg hm ha hs hpl
theorem kg_tup {k : Nat} {t : TGs} {n : Nat} (hK : X.K = K) (hc : X.calm = true) (h : PGs X es t) (hn : (assignEach es X.env).length = n := by rfl) (hst : (assignEach es X.env).findIdx? (·.1) = none := by rfl) : PG X (.Tuple es k pos) (gTup K n t) := hK ▸ pg_tup hc h hn hst
theorem k_join {apos : Pos} (hK : X.K = K) (ho : PE X o to) (he : PE X e te) (hs : starEach [e] X.env = [(false, eval e X.env)] := by rfl) (hbase : attributeBase o "join" X.env (eval o X.env) = eval o X.env := by rfl) (hline : (apos.endLine == pos.line) = true := by rfl) :
    PE X (.Call (.Attribute o "join" apos) [e] [] pos) (tM1 (rJoin K) to te) := hK ▸ pe_join ho he hs hbase hline
theorem k_bm {T name id : String} {r : V → List V → Hp → VK → Prop} {apos cpos : Pos} {t : TA} (hK : X.K = K) (pa : PlainAttrs T) (slot : Slot T name id) (hty : typeOf (.builtin id) = pure (.type "method_descriptor")) (hm : MtR X id r) (ho : PE X o to) (ha : PA X (e :: es) t)
    (hbase : attributeBase o name X.env (eval o X.env) = eval o X.env := by rfl)
    (hfew : ((backTo cpos (starEach (e :: es) X.env)).all (fun x => !x.1) && (backToKw cpos (keywordEach [] X.env)).all (fun x => x.1.isSome)
      && decide ((e :: es).length + ([] : List Keyword).length + (if ([] : List Keyword).isEmpty then 0 else 1) < 30)) = true := by rfl)
    (hline : (apos.endLine == cpos.line) = true := by rfl) (hs : starEach (e :: es) X.env = (false, eval e X.env) :: starEach es X.env := by rfl) (hplain : (backTo cpos (starEach es X.env)).any (·.1) = false := by rfl) :
    PE X (.Call (.Attribute o name apos) (e :: es) [] cpos) (tBM K T r to t) := hK ▸ pe_bm pa slot hty hm ho ha hbase hfew hline hs hplain
theorem k_bm0 {T name id : String} {r : V → List V → Hp → VK → Prop} {apos cpos : Pos} (hK : X.K = K) (pa : PlainAttrs T) (slot : Slot T name id) (hty : typeOf (.builtin id) = pure (.type "method_descriptor")) (hm : MtR X id r) (ho : PE X o to)
    (hbase : attributeBase o name X.env (eval o X.env) = eval o X.env := by rfl) (hline : (apos.endLine == cpos.line) = true := by rfl) : PE X (.Call (.Attribute o name apos) [] [] cpos) (tBM0 K T r to) := hK ▸ pe_bm0 pa slot hty hm ho hbase hline
theorem kt_truth (hK : X.K = K) (ha : PE X a ta) (he : ∀ whole, isTrue a X.env whole = (do let v ← whole; standAt a.pos; holding [v] (truthy v))) :
    PT X a (fun σ H Q => ta σ H fun x H' => ∃ k, TruV K x H' k ∧ Q k H') := hK ▸ pt_truth ha he
/-- list(..) of a list, a tuple, a text, a dict -/
def rListStr : List V → Hp → VK → Prop := fun xs H Q => ∃ z : Str, xs = [.str z] ∧ z.length ≤ sizeLine ∧ ∀ p, H p = none → Q (.ref p) (upd H p (.lst ((tl z).map fun c => V.str (sw [c]))))
theorem call_listStr (hc : X.calm = true) : CallR X (.type "list") rListStr := by
  intro pins s σ H xs us Q I r h
  obtain ⟨z, rfl, hz, q⟩ := h
  obtain ⟨u, rfl, t, rfl⟩ := vals1 r
  refine call_list_str (I.ok.hd hc) z t (fun h' tk acc' c' kp e it => ?_) hz
  refine ⟨.ref s.heap.objs.size, _, I.laid (t' := tk) kp (Nat.le_refl _) (show ObjOk X.prog X.w _ h' _ (.lst ((tl z).map fun c => V.str (sw [c]))) from ⟨?_, acc'.toList, c', ?_, ?_⟩), rfl, q _ (I.hok.fresh (Nat.le_refl _))⟩
  · rw [List.length_map]; exact hz
  · refine vals_of_at ?_ fun j x v h1 h2 => ?_
    · rw [List.length_map, Array.length_toList, Array.length_toList, it.1]
    · rw [Array.getElem?_toList] at h2
      obtain ⟨c, t', e1, e2⟩ := it.2 j v h2
      rw [List.getElem?_map, Array.getElem?_toList] at h1
      rw [e1] at h1
      cases h1
      exact ⟨t', e2⟩
  · rw [e]
def rListU (K : PySem.W.Frag) : List V → Hp → VK → Prop := fun xs H Q => rListOf K xs H Q ∨ rListStr xs H Q ∨ rListD xs H Q
theorem call_listU (hc : X.calm = true) : CallR X (.type "list") (rListU X.K) := CallR.or call_list_of (CallR.or (call_listStr hc) (call_list_dK hc))
end
section
variable {c : Cz} {K : PySem.W.Frag}
theorem RCX.inl {r r' : List V → Hp → VK → Prop} {xs : List DV} {z : DV} (h : RCX c r xs z) : RCX c (fun xs H Q => r xs H Q ∨ r' xs H Q) xs z := fun H1 g l vs ha Q q => .inl (h H1 g l vs ha Q q)
theorem RCX.inr {r r' : List V → Hp → VK → Prop} {xs : List DV} {z : DV} (h : RCX c r' xs z) : RCX c (fun xs H Q => r xs H Q ∨ r' xs H Q) xs z := fun H1 g l vs ha Q q => .inr (h H1 g l vs ha Q q)
theorem flat_bools {α β : Type} (xs : List α) (ys : α → List β) (g : α → β → Bool) : (xs.flatMap fun x => (ys x).map fun y => PyData.bool (g x y)) = (xs.flatMap fun x => (ys x).map (g x)).map PyData.bool := by
  rw [List.map_flatMap]; congr 1; funext x; rw [List.map_map]; rfl
theorem rc_all2 {α β : Type} {xs : List α} {ys : α → List β} {g : α → β → Bool} : RCX c (rAll K) [.d (.list (xs.flatMap fun x => (ys x).map fun y => .bool (g x y)))] (.d (.bool (xs.all fun x => (ys x).all (g x)))) := by
  have := rc_all (c := c) (K := K) (xs := xs.flatMap fun x => (ys x).map (g x)) (g := id)
  rw [List.all_flatMap] at this
  rw [flat_bools]
  have e : (fun x => ((ys x).map (g x)).all id) = fun x => (ys x).all (g x) := by funext x; rw [List.all_map]; rfl
  rw [e] at this
  exact this
theorem rc_any2 {α β : Type} {xs : List α} {ys : α → List β} {g : α → β → Bool} : RCX c (rAny K) [.d (.list (xs.flatMap fun x => (ys x).map fun y => .bool (g x y)))] (.d (.bool (xs.any fun x => (ys x).any (g x)))) := by
  have := rc_any (c := c) (K := K) (xs := xs.flatMap fun x => (ys x).map (g x)) (g := id)
  rw [List.any_flatMap] at this
  rw [flat_bools]
  have e : (fun x => ((ys x).map (g x)).any id) = fun x => (ys x).any (g x) := by funext x; rw [List.any_map]; rfl
  rw [e] at this
  exact this
theorem rc_ulL {xs : List D} : RCX c (rListU K) [.d (.list xs)] (.d (.list xs)) := RCX.inl (r' := fun xs H Q => rListStr xs H Q ∨ rListD xs H Q) rc_lstL
theorem rc_ulT {xs : List D} : RCX c (rListU K) [.d (.tuple xs)] (.d (.list xs)) := RCX.inl (r' := fun xs H Q => rListStr xs H Q ∨ rListD xs H Q) rc_lstT
theorem dqAll_chars {H : Hp} (l : List Nat) : DqAll H (l.map fun c => V.str (sw [c])) (l.map fun c => ds [c]) := by
  induction l with
  | nil => exact .nil
  | cons a l ih => exact .cons (.str _) ih
theorem rc_ulS {l : W} (h : Fits l.length) : RCX c (rListU K) [.d (ds l)] (.d (.list (l.map fun c => ds [c]))) := fun H1 g lv vs ha Q q => by
  obtain ⟨v, rfl, o⟩ := args1 ha
  obtain rfl := dq_str o
  refine .inr (.inl ⟨sw l, rfl, by rw [sw_len]; exact Nat.le_trans h (by decide), fun p hp => q _ _ (same_new hp _) ?_⟩)
  rw [tl_sw]
  exact new_lst lv hp (dqAll_chars l)
def keyD : Key → D
  | .inl i => .int i
  | .inr x => .str x
theorem kd_keys {H : Hp} {kv : List (Key × V)} {kvs : List (Key × D)} (h : KD H kv kvs) : DqAll H (kv.map fun kv => kV kv.1) (kvs.map fun kv => keyD kv.1) := by
  induction h with
  | nil => exact .nil
  | @cons p q r s hh t ih =>
    refine .cons ?_ ih
    show Dq H (kV p.1) (keyD q.1)
    rw [hh.1]
    cases q.1 with
    | inl i => exact .int i
    | inr x => exact .str x
theorem rc_ulD {kvs : List (Key × D)} : RCX c (rListU K) [.k kvs] (.d (.list (kvs.map fun kv => keyD kv.1))) := fun H1 g lv vs ha Q q => by
  obtain ⟨v, rfl, o⟩ := args1 ha
  obtain ⟨a, kv, rfl, h1, h2⟩ := o
  exact .inr (.inr ⟨a, kv, rfl, (hid_some h1).2, fun p hp => q _ _ (same_new hp _) (new_lst lv hp (kd_keys h2))⟩)
end
end TD
set_option Elab.async false
set_option linter.all false
set_option maxRecDepth 100000
set_option maxHeartbeats 400000
/-! Cuts and small helps. -/
namespace TD
open PySem PySem.Spec PyProof.Rows L2 TP
theorem EvI.is {c : Cz} {wi : TI} {ρ : List DV} {a b : List IV} (h : EvI c wi ρ a) (e : a = b) : EvI c wi ρ b := e ▸ h
theorem cut_take {α : Type} (xs : List α) (k : Int) (h : 0 ≤ k) : cutL xs none (some k) = xs.take k.toNat := by
  unfold cutL HT.sIx
  have h' : ¬ k < 0 := by omega
  simp only [h', if_false, List.drop_zero, Nat.sub_zero]
  rw [List.take_eq_take_iff]
  omega
theorem cut_drop {α : Type} (xs : List α) (k : Int) (h : 0 ≤ k) : cutL xs (some k) none = xs.drop k.toNat := by
  unfold cutL HT.sIx
  have h' : ¬ k < 0 := by omega
  simp only [h', if_false]
  rw [List.take_of_length_le (by rw [List.length_drop]; omega)]
  by_cases q : k.toNat ≤ xs.length
  · congr 1; omega
  · rw [List.drop_eq_nil_of_le (by omega), List.drop_eq_nil_of_le (by omega)]
theorem ev_neg {c : Cz} {te : TE} {ρ : List DV} {i : Int} (h : EvX c te ρ (.d (.int i))) : EvX c (tUn (rU fun i => V.int (-i)) te) ρ (.d (.int (-i))) := fun H1 σ a Q q => h H1 σ a _ fun v H2 s2 o2 => ⟨i, dq_int o2, q _ H2 s2 (Dq.int _)⟩
theorem range_get {n i j : Nat} (h : (List.range n)[i]? = some j) : i < n ∧ j = i := by
  by_cases q : i < n
  · rw [List.getElem?_range q] at h
    cases h; exact ⟨q, rfl⟩
  · rw [List.getElem?_eq_none (by rw [List.length_range]; omega)] at h; cases h
/-- a hidden list, returned -/
theorem s_retL {K : PySem.W.Frag} {M : List Addr} {H : Hp} {σ : L2.St} {ρ : List DV} {D : Ends} {te : TE} {p : Addr} {xs : List PyData} (s : Sta K (p :: M) H σ ρ) (n : p ∉ M) (m : ML (p :: M) H p xs) (h : EvX (cz K (p :: M) H) te ρ (.v (.ref p)))
    (r : ∀ v H', Same H H' → VOk K (hid M H') v (.d (.list xs)) → D.rt v H') : tRet te D σ H :=
  s_retV (M' := M) (y := .d (.list xs)) s h (fun H' s' => (m.same s').data (fun b hb => List.mem_cons_of_mem _ hb) n) r
theorem s_retK {K : PySem.W.Frag} {M : List Addr} {H : Hp} {σ : L2.St} {ρ : List DV} {D : Ends} {te : TE} {p : Addr} {xs : List (Key × PyData)} (s : Sta K (p :: M) H σ ρ) (n : p ∉ M) (m : MK (p :: M) H p xs) (h : EvX (cz K (p :: M) H) te ρ (.v (.ref p)))
    (r : ∀ v H', Same H H' → VOk K (hid M H') v (.k xs) → D.rt v H') : tRet te D σ H :=
  s_retV (M' := M) (y := .k xs) s h (fun H' s' => (m.same s').data (fun b hb => List.mem_cons_of_mem _ hb) n) r
theorem Gr.app {p : Addr} {H H1 H2 : Hp} (a : Gr [p] H H1) (b : Gr [p] H1 H2) : Gr [p] H H2 := a.trans b
theorem Gr.appS {p : Addr} {H H1 H2 : Hp} (a : Gr [p] H H1) (b : Same H1 H2) : Gr [p] H H2 := a.trans (Same.gr b)
end TD
set_option Elab.async false
set_option linter.all false
set_option maxRecDepth 100000
set_option maxHeartbeats 400000
/-! Plain schemes, more. -/
namespace TP
open PySem TD L2
theorem put_mem {t : Tb} {k v : W} {p : W × W} (h : p ∈ put t k v) : p ∈ t ∨ (p.2 = v ∧ p.1 = k) := by
  unfold put at h
  split at h
  · obtain ⟨q, hq, e⟩ := List.mem_map.mp h
    by_cases g : q.1 = k
    · rw [if_pos g] at e; subst e; exact .inr ⟨rfl, g⟩
    · rw [if_neg g] at e; subst e; exact .inl hq
  · rcases List.mem_append.mp h with h | h
    · exact .inl h
    · rw [List.mem_singleton] at h; subst h; exact .inr ⟨rfl, rfl⟩
theorem writeT_val {s : Sc} {b : Nat} (h : ∀ p ∈ s, p.2.length ≤ b) : ∀ p ∈ writeT s, p.2.length ≤ b := by
  unfold writeT
  have : ∀ (s : Sc) (t : Tb), (∀ p ∈ s, p.2.length ≤ b) → (∀ p ∈ t, p.2.length ≤ b) → ∀ p ∈ s.foldl (fun t p => put t p.1 p.2) t, p.2.length ≤ b := by
    intro s
    induction s with
    | nil => intro t _ h; exact h
    | cons p s ih =>
      intro t hs ht
      refine ih _ (fun q hq => hs q (List.mem_cons_of_mem _ hq)) fun q hq => ?_
      rcases put_mem hq with h | h
      · exact ht q h
      · rw [h.1]; exact hs p List.mem_cons_self
  exact this s [] h (fun p hp => by simp at hp)
theorem setd_mem {t : Tb} {k v : W} {p : W × W} (h : p ∈ setd t k v) : p ∈ t ∨ (p.1 = k ∧ p.2 = v) := by
  unfold setd at h
  split at h
  · exact .inl h
  · rcases List.mem_append.mp h with h | h
    · exact .inl h
    · rw [List.mem_singleton] at h; subst h; exact .inr ⟨rfl, rfl⟩
theorem readT_val {s : Sc} {b : Nat} (h : ∀ p ∈ s, p.1.length ≤ b) : ∀ p ∈ readT s, p.2.length ≤ b := by
  unfold readT
  have : ∀ (s : Sc) (t : Tb), (∀ p ∈ s, p.1.length ≤ b) → (∀ p ∈ t, p.2.length ≤ b) → ∀ p ∈ s.foldl (fun t p => setd t p.2 p.1) t, p.2.length ≤ b := by
    intro s
    induction s with
    | nil => intro t _ h; exact h
    | cons p s ih =>
      intro t hs ht
      refine ih _ (fun q hq => hs q (List.mem_cons_of_mem _ hq)) fun q hq => ?_
      rcases setd_mem hq with h | h
      · exact ht q h
      · rw [h.2]; exact hs p List.mem_cons_self
  exact this s [] h (fun p hp => by simp at hp)
theorem setd_len (t : Tb) (k v : W) : (setd t k v).length ≤ t.length + 1 := by
  unfold setd; split
  · omega
  · rw [List.length_append]; simp
theorem readT_len (s : Sc) (t : Tb) : (s.foldl (fun t p => setd t p.2 p.1) t).length ≤ t.length + s.length := by
  induction s generalizing t with
  | nil => simp
  | cons p s ih =>
    rw [List.foldl_cons, List.length_cons]
    have := ih (setd t p.2 p.1)
    have := setd_len t p.2 p.1
    omega
theorem get_mem {t : Tb} {k v : W} (h : get t k = some v) : (k, v) ∈ t := by
  unfold get at h
  obtain ⟨p, hp, rfl⟩ := Option.map_eq_some_iff.mp h
  have := List.find?_some hp
  have e : p.1 = k := by simpa using this
  subst e
  exact List.mem_of_find?_eq_some hp
theorem val_le {t : Tb} {b : Nat} (h : ∀ p ∈ t, p.2.length ≤ b) (k : W) : (val t k).length ≤ b := by
  unfold val
  cases e : get t k with
  | none => simp
  | some v => exact h _ (get_mem e)
theorem mapped_le {t : Tb} {b : Nat} {x y : W} (h : ∀ p ∈ t, p.2.length ≤ b) (e : mapped t x = some y) : y.length ≤ x.length * b := by
  unfold mapped at e
  obtain ⟨ps, h1, rfl⟩ := Option.map_eq_some_iff.mp e
  have l := (split_len _ (Nat.le_refl _) h1).1
  have := flat_le (l := ps.map (val t)) (b := b) fun x hx => by
    obtain ⟨k, _, rfl⟩ := List.mem_map.mp hx
    exact val_le h k
  rw [List.length_map] at this
  exact Nat.le_trans this (Nat.mul_le_mul_right _ l)
/-- sources stand in ascending order -/
theorem asc_lt : ∀ {S : List W}, ascending S = true → List.Pairwise (· < ·) S
  | [], _ => .nil
  | [a], _ => .cons (fun _ h => by simp at h) .nil
  | a :: b :: r, h => by
    have h' : (decide (a < b) && ascending (b :: r)) = true := h
    rw [Bool.and_eq_true, decide_eq_true_iff] at h'
    have ih := asc_lt h'.2
    refine .cons (fun x hx => ?_) ih
    rcases List.mem_cons.mp hx with rfl | hx
    · exact h'.1
    · exact List.lt_trans h'.1 (List.rel_of_pairwise_cons ih hx)
theorem asc_nodup {S : List W} (h : ascending S = true) : S.Nodup := (asc_lt h).imp fun {a b} l e => by
  subst e; exact List.lt_irrefl _ l
theorem writeT_id {s : Sc} (h : (s.map (·.1)).Nodup) : writeT s = s := by
  unfold writeT
  have : ∀ (s : Sc) (t : Tb), ((t ++ s).map (·.1)).Nodup → s.foldl (fun t p => put t p.1 p.2) t = t ++ s := by
    intro s
    induction s with
    | nil => intro t _; simp
    | cons p s ih =>
      intro t hn
      have e : put t p.1 p.2 = t ++ [p] := by
        unfold put
        have : (t.any fun q => decide (q.1 = p.1)) = false := by
          rw [List.any_eq_false]
          intro q hq he
          have he' : q.1 = p.1 := by simpa using he
          rw [List.map_append, List.map_cons] at hn
          have := (List.nodup_append.mp hn).2.2 q.1 (List.mem_map_of_mem hq) p.1 List.mem_cons_self
          exact this he'
        rw [this]; rfl
      rw [List.foldl_cons, e, ih _ (by rw [List.append_assoc]; exact hn), List.append_assoc]; rfl
  simpa using this s [] (by simpa using h)
theorem Scheme.nodup {s : Sc} (h : Scheme s) : (s.map (·.1)).Nodup := asc_nodup h.asc
theorem Scheme.writeT {s : Sc} (h : Scheme s) : writeT s = s := writeT_id h.nodup
theorem get_isSome {t : Tb} {k : W} : (get t k).isSome = true ↔ k ∈ t.map (·.1) := by
  unfold get
  rw [Option.isSome_map, List.find?_isSome, List.mem_map]
  constructor
  · rintro ⟨x, hx, e⟩; exact ⟨x, hx, by simpa using e⟩
  · rintro ⟨x, hx, e⟩; exact ⟨x, hx, by simpa using e⟩
theorem letters_mem {s : Sc} {k : W} : k ∈ letters s ↔ k ∈ s.map (·.1) ∧ k.length = 1 := by
  unfold letters
  rw [List.mem_map, List.mem_map]
  constructor
  · rintro ⟨p, hp, rfl⟩
    rw [List.mem_filter] at hp
    exact ⟨⟨p, hp.1, rfl⟩, by simpa using hp.2⟩
  · rintro ⟨⟨p, hp, rfl⟩, e⟩
    exact ⟨p, List.mem_filter.mpr ⟨hp, by simpa using e⟩, rfl⟩
theorem longestN_some {t : Tb} {x : W} : ∀ {n m : Nat}, m < n → (get t (x.take (m + 1))).isSome = true → (longestN t x n).isSome = true
  | 0, _, h, _ => by omega
  | n + 1, m, h, g => by
    unfold longestN
    split
    · rfl
    · rename_i hn
      have : m ≠ n := fun e => hn (by rw [← e]; exact g)
      exact longestN_some (by omega) g
/-- a word of letters is cut -/
theorem split_total {t : Tb} : ∀ (n : Nat) {x : W}, x.length ≤ n → (∀ c ∈ x, (get t [c]).isSome = true) → (split t x).isSome = true
  | n, x, hn, h => by
    cases x with
    | nil => rw [split_nil]; rfl
    | cons c r =>
      have hl : (longest t (c :: r)).isSome = true := longestN_some (m := 0) (by rw [List.length_cons]; omega) (h c List.mem_cons_self)
      cases e : longest t (c :: r) with
      | none => rw [e] at hl; cases hl
      | some k =>
        rw [split_some (by simp) e, Option.isSome_map]
        have l := longest_len e
        cases n with
        | zero => rw [List.length_cons] at hn; omega
        | succ n => exact split_total n (by rw [List.length_drop]; omega) fun d hd => h d (List.mem_of_mem_drop hd)
theorem isWord_ds {s : Sc} {w : W} : isWord s (ds w) = true ↔ w.length ≤ 40 ∧ ∀ c ∈ w, [c] ∈ s.map (·.1) := by
  unfold isWord isStr
  simp only [tl_sw, Bool.and_eq_true, decide_eq_true_eq, List.all_eq_true]
  constructor
  · rintro ⟨⟨_, h1⟩, h2⟩
    exact ⟨by omega, fun c hc => (letters_mem.mp (h2 c hc)).1⟩
  · rintro ⟨h1, h2⟩
    exact ⟨⟨by omega, by omega⟩, fun c hc => letters_mem.mpr ⟨h2 c hc, rfl⟩⟩
theorem Scheme.split {s : Sc} {w : W} (h : Scheme s) (hw : isWord s (ds w) = true) : ∃ ps, TP.split (TP.writeT s) w = some ps := by
  have := split_total (t := TP.writeT s) _ (Nat.le_refl _) fun c hc => by
    rw [h.writeT, get_isSome]; exact (isWord_ds.mp hw).2 c hc
  exact Option.isSome_iff_exists.mp this
theorem Scheme.mapped {s : Sc} {w : W} (h : Scheme s) (hw : isWord s (ds w) = true) : ∃ y, TP.mapped (TP.writeT s) w = some y ∧ y.length ≤ w.length * 3 := by
  obtain ⟨ps, e⟩ := h.split hw
  have e2 : TP.mapped (TP.writeT s) w = some ((ps.map (val (TP.writeT s))).flatten) := by unfold TP.mapped; rw [e]; rfl
  exact ⟨_, e2, mapped_le (writeT_val fun p hp => (h.tgt1 p hp).2) e2⟩
/-- the transliteration -/
def trans (s : Sc) (w : W) : W := (TP.mapped (TP.writeT s) w).getD []
def survives (s : Sc) (w : W) : Bool := decide (TP.mapped (readT s) (trans s w) = some w)
theorem isWord_D {s : Sc} {v : D} (h : isWord s v = true) : ∃ w, v = ds w := by
  unfold isWord isStr at h
  split at h
  · rename_i x; exact ⟨tl x, by rw [show ds (tl x) = .str (sw (tl x)) from rfl, sw_tl]⟩
  · cases h
abbrev encOs : Option (List W) → D
  | none => .none
  | some ps => encW ps
theorem eqv_O (o : Option W) (w : W) : PyData.eqv (encO o) (ds w) = decide (o = some w) := by
  cases o with
  | none => rw [Bool.eq_iff_iff]; simp [PyData.eqv]
  | some v => rw [eqv_ds]; exact decide_eq_decide.mpr ⟨fun h => by rw [h], fun h => by injection h⟩
theorem encO_some {o : Option W} {y : W} (e : o = some y) : encO o = ds y := by subst e; rfl
end TP
namespace TP
open PySem TD L2
theorem get_val {t : Tb} {k : W} (h : (get t k).isSome = true) : get t k = some (val t k) := by
  unfold val
  cases e : get t k with
  | none => rw [e] at h; cases h
  | some v => rfl
end TP
namespace TP
open PySem TD L2
theorem isText_len {x : W} (h : isText (ds x) = true) : x.length ≤ 40 := by
  unfold isText isStr at h
  simp only [tl_sw, Bool.and_eq_true, decide_eq_true_eq] at h
  omega
end TP
set_option Elab.async false
set_option linter.all false
set_option maxRecDepth 100000
set_option maxHeartbeats 400000
/-! The town: a hidden list of two ints that draws change. -/
namespace TD
open PySem PySem.Spec PyProof.Rows L2 TP
/-- at t stands the town -/
def Plain (o : HO) : Prop := (∃ xs, o = .lst xs) ∨ ∃ kv, o = .dK kv
/-- the hidden things that the law's run changes: the town at a, and what else stands at L -/
structure Tw where
  a : Addr
  L : List Addr
  At : Hp → Prop
  live : ∀ H, At H → ∀ b ∈ L, H b ≠ none
  gr : ∀ (H H' : Hp) (T : List Addr), At H → Gr T H H' → (∀ b ∈ T, b ∉ L ∧ ∀ o, H b = some o → Plain o) → At H'
/-- the town stands at a -/
class IsTown (t : Tw) : Prop where
  ha : t.a ∈ t.L
  town : ∀ H, t.At H → ∃ p r : Int, 0 ≤ p ∧ 0 ≤ r ∧ H t.a = some (.lst [.int p, .int r])
  put : ∀ (H H' : Hp) (p r : Int), t.At H → Gr [t.a] H H' → 0 ≤ p → 0 ≤ r → H' t.a = some (.lst [.int p, .int r]) → t.At H'
def TownAt (t : Tw) (H : Hp) : Prop := t.At H
theorem TownAt.same {t : Tw} {H H' : Hp} (h : TownAt t H) (s : Same H H') : TownAt t H' := t.gr H H' [] h (Same.gr s) (by simp)
theorem TownAt.out {t : Tw} {H : Hp} {q : Addr} (h : TownAt t H) (n : H q = none) : q ∉ t.L := fun z => t.live H h q z n
/-- t may change within c -/
def Tn (c : Cz) (t : Tw) : Prop := (∀ b ∈ t.L, b ∈ c.T) ∧ ∀ b ∈ t.L, b ∈ c.M
theorem At.gro {c : Cz} {t : Tw} {H H1 : Hp} {σ : L2.St} {ρ : List DV} (n : Tn c t) (a : At c H σ ρ) (g : Gr t.L H H1) (w : TownAt t H1) : At c H1 σ ρ where
  gr := a.gr.trans (g.mono n.1)
  lv := fun m hm e => by
    by_cases q : m ∈ t.L
    · exact t.live _ w m q e
    · cases q2 : H m with
      | none => exact a.lv m hm q2
      | some o => rw [g m o q q2] at e; cases e
  env := a.env.mono (Gr.hid g n.2)
theorem Gr.hidT {c : Cz} {t : Tw} {H H1 : Hp} (n : Tn c t) (g : Gr t.L H H1) : Same (c.hid H) (c.hid H1) := Gr.hid g n.2
def EvT (c : Cz) (t : Tw) (te : TE) (ρ : List DV) (P : DV → Prop) : Prop := Tn c t → ∀ H1 σ, At c H1 σ ρ → TownAt t H1 → ∀ Q : VK, (∀ v x H2, P x → Gr t.L H1 H2 → TownAt t H2 → VOk c.K (c.hid H2) v x → Q v H2) → te σ H1 Q
def EvAT (c : Cz) (t : Tw) (ta : TA) (ρ : List DV) (P : List DV → Prop) : Prop := Tn c t → ∀ H1 σ, At c H1 σ ρ → TownAt t H1 → ∀ Q : List V → Hp → Prop, (∀ vs xs H2, P xs → Gr t.L H1 H2 → TownAt t H2 → Args c.K (c.hid H2) vs xs → Q vs H2) → ta σ H1 Q
def EvBT (c : Cz) (t : Tw) (tt : TT) (ρ : List DV) (P : Bool → Prop) : Prop := Tn c t → ∀ H1 σ, At c H1 σ ρ → TownAt t H1 → ∀ Q : Bool → Hp → Prop, (∀ b H2, P b → Gr t.L H1 H2 → TownAt t H2 → Q b H2) → tt σ H1 Q
def EvIT (c : Cz) (t : Tw) (wi : TI) (ρ : List DV) (P : List IV → Prop) : Prop := Tn c t → ∀ H1 σ, At c H1 σ ρ → TownAt t H1 → ∀ R : It → Hp → Prop, (∀ J H2 its, P its → Gr t.L H1 H2 → TownAt t H2 → ItOk c.M H2 J its → R J H2) → wi σ H1 R
/-- a def that draws: for xs it hands back some x with P x -/
def spT (K : PySem.W.Frag) (ok : Addr → List DV → (DV → Prop) → Prop) : Sp := fun vs H Q E => ∃ M t xs P, IsTown t ∧ (∀ b ∈ t.L, b ∈ M) ∧ Live M H ∧ TownAt t H ∧ Args K (hid M H) vs xs ∧ ok t.a xs P ∧ ∀ v x H', P x → Gr t.L H H' → TownAt t H' → VOk K (hid M H') v x → Q v H'
section
variable {c : Cz} {t : Tw} {ρ : List DV} {te ta tb : TE} {tt : TT} {tl tr : TA} {wi : TI} {P P' : DV → Prop} {x : DV}
theorem EvT.imp (h : EvT c t te ρ P) (i : ∀ x, P x → P' x) : EvT c t te ρ P' := fun n H1 σ a w Q q => h n H1 σ a w Q fun v x H2 p g w2 o => q v x H2 (i x p) g w2 o
theorem et_pure (h : EvX c te ρ x) (p : P x) : EvT c t te ρ P := fun n H1 σ a w Q q => h H1 σ a Q fun v H2 s o => q v x H2 p (Same.gr s) (w.same s) o
theorem et_x (h : EvX c te ρ x) : EvT c t te ρ (· = x) := et_pure h rfl
theorem eat_nil : EvAT c t tNil ρ (· = []) := fun n H1 σ a w Q q => q [] [] H1 rfl (Gr.refl _ _) w .nil
theorem eat_cons {R : List DV → Prop} (h : EvT c t ta ρ P) (hr : EvAT c t tr ρ R) : EvAT c t (tCons ta tr) ρ (fun l => ∃ x xs, l = x :: xs ∧ P x ∧ R xs) := fun n H1 σ a w Q q =>
  h n H1 σ a w _ fun v x H2 p g w2 o => hr n H2 σ (a.gro n g w2) w2 _ fun vs xs H3 r g3 w3 o3 => q (v :: vs) (x :: xs) H3 ⟨x, xs, rfl, p, r⟩ (g.trans g3) w3 (.cons (o.mono (Gr.hidT n g3)) o3)
theorem eat_pure {xs : List DV} (h : EvA c tl ρ xs) : EvAT c t tl ρ (· = xs) := fun n H1 σ a w Q q => h H1 σ a Q fun vs H2 s o => q vs xs H2 rfl (Same.gr s) (w.same s) o
theorem et_callT [it : IsTown t] {ok : Addr → List DV → (DV → Prop) → Prop} {E : XK} {R : List DV → Prop} (ha : EvAT c t tl ρ R) (h : ∀ xs, R xs → ∃ P', ok t.a xs P' ∧ ∀ x, P' x → P x) : EvT c t (tCall (spT c.K ok) [] E tl) ρ P := fun n H1 σ a w Q q =>
  ha n H1 σ a w _ fun vs xs H2 r g w2 o => by
    obtain ⟨P', k, i⟩ := h xs r
    rw [List.append_nil]
    exact ⟨c.M, t, xs, P', it, n.2, (a.gro n g w2).lv, w2, o, k, fun v x H3 p g3 w3 o3 => q v x H3 (i x p) (g.trans g3) w3 o3⟩
theorem et_call [it : IsTown t] {ok : Addr → List DV → (DV → Prop) → Prop} {E : XK} {xs : List DV} (ha : EvA c tl ρ xs) (h : ok t.a xs P) : EvT c t (tCall (spT c.K ok) [] E tl) ρ P := et_callT (eat_pure ha) fun _ e => ⟨P, by rw [e]; exact h, fun _ p => p⟩
theorem et_op {r : R2} {Pa Pb : DV → Prop} (ha : EvT c t ta ρ Pa) (hb : EvT c t tb ρ Pb) (hr : ∀ x y, Pa x → Pb y → ∃ z, P z ∧ RX c r x y z) : EvT c t (tOp r ta tb) ρ P := fun n H1 σ a w Q q =>
  ha n H1 σ a w _ fun u x H2 p g w2 o => hb n H2 σ (a.gro n g w2) w2 _ fun v y H3 p3 g3 w3 o3 => by
    obtain ⟨z, pz, h⟩ := hr x y p p3
    have a3 := (a.gro n g w2).gro n g3 w3
    exact h H3 a3.gr a3.lv u v (o.mono (Gr.hidT n g3)) o3 _ fun v' H4 s4 o4 => q v' z H4 pz ((g.trans g3).trans (Same.gr s4)) (w3.same s4) o4
theorem et_cb {r : List V → Hp → VK → Prop} {R : List DV → Prop} (ha : EvAT c t tl ρ R) (hr : ∀ xs, R xs → ∃ z, P z ∧ RCX c r xs z) : EvT c t (tCB r tl) ρ P := fun n H1 σ a w Q q =>
  ha n H1 σ a w _ fun vs xs H2 p g w2 o => by
    obtain ⟨z, pz, h⟩ := hr xs p
    have a2 := a.gro n g w2
    exact h H2 a2.gr a2.lv vs o _ fun v' H4 s4 o4 => q v' z H4 pz (g.trans (Same.gr s4)) (w2.same s4) o4
theorem et_m1 {r : V → List V → Hp → VK → Prop} {to : TE} {Pb : DV → Prop} {x : Str} (ho : EvX c to ρ (.d (.str x))) (he : EvT c t te ρ Pb) (hr : ∀ y, Pb y → ∃ z, P z ∧ RMX c r (.d (.str x)) [y] z) : EvT c t (tM1 r to te) ρ P := fun n H1 σ a w Q q =>
  ho H1 σ a _ fun u H2 s2 o2 => ⟨⟨x, dq_str o2⟩, he n H2 σ (a.same s2) (w.same s2) _ fun v y H3 p g w3 o3 => by
    obtain ⟨z, pz, h⟩ := hr y p
    have a3 := (a.same s2).gro n g w3
    exact h H3 a3.gr a3.lv u [v] (o2.mono (Gr.hidT n g)) (.cons o3 .nil) _ fun v' H4 s4 o4 => q v' z H4 pz ((Same.gr s2).trans (g.trans (Same.gr s4))) (w3.same s4) o4⟩
theorem et_tup (ha : EvAT c t tl ρ fun l => ∃ xs : List D, l = xs.map DV.d ∧ xs.length ≤ 1000 ∧ P (.d (.tuple xs))) : EvT c t (tTupF tl) ρ P := fun n H1 σ a w Q q =>
  ha n H1 σ a w _ fun vs l H2 p g w2 o => by
    obtain ⟨xs, rfl, hz, px⟩ := p
    have hd := args_dq o
    exact ⟨by rw [dqAll_len hd]; exact Nat.le_trans hz (by decide), newT_q (a.gro n g w2).lv hd fun v H3 s3 o3 => q v _ H3 px (g.trans (Same.gr s3)) (w2.same s3) o3⟩
theorem et_lst (ha : EvAT c t tl ρ fun l => ∃ xs : List D, l = xs.map DV.d ∧ xs.length ≤ 1000 ∧ P (.d (.list xs))) : EvT c t (tLst tl) ρ P := fun n H1 σ a w Q q =>
  ha n H1 σ a w _ fun vs l H2 p g w2 o => by
    obtain ⟨xs, rfl, hz, px⟩ := p
    have hd := args_dq o
    exact ⟨by rw [dqAll_len hd]; exact Nat.le_trans hz (by decide), fun p hp => q _ _ _ px (g.trans (Same.gr (same_new hp _))) (w2.same (same_new hp _)) (new_lst (a.gro n g w2).lv hp hd)⟩
theorem rx_ixL {c : Cz} {K : PySem.W.Frag} {xs : List D} {i : Int} {y : D} (e : atI xs i = some y) : RX c (rIx K) (.d (.list xs)) (.d (.int i)) (.d y) := fun H1 _ _ u v hu hv Q q => by
  obtain ⟨p, vs, rfl, hp, hvs⟩ := dq_list hu
  obtain ⟨w, e1, e2⟩ := dqAll_atI hvs e
  exact .inl ⟨p, vs, i, w, rfl, dq_int hv, sqL_of hp, e1, q w H1 (Same.refl _) e2⟩
theorem rx_ixT {c : Cz} {K : PySem.W.Frag} {xs : List D} {i : Int} {y : D} (e : atI xs i = some y) : RX c (rIx K) (.d (.tuple xs)) (.d (.int i)) (.d y) := fun H1 _ _ u v hu hv Q q => by
  obtain ⟨p, o, vs, rfl, hp, _, hvs⟩ := dq_tuple hu
  obtain ⟨w, e1, e2⟩ := dqAll_atI hvs e
  exact .inr (.inl ⟨p, vs, i, w, rfl, dq_int hv, sqT_of hp, e1, q w H1 (Same.refl _) e2⟩)
theorem rx_ixS {c : Cz} {K : PySem.W.Frag} {l : List Nat} {i : Int} {n : Nat} (e : atI l i = some n) (hz : l.length ≤ 1000000) : RX c (rIx K) (.d (ds l)) (.d (.int i)) (.d (ds [n])) := fun H1 _ _ u v hu hv Q q =>
  .inr (.inr ⟨sw l, i, n, dq_str hu, dq_int hv, by rw [sw_len]; exact Nat.le_trans hz (by decide), by
      have e2 : (sw l).cps.toList = l := tl_sw l
      rw [e2]; exact e, q _ H1 (Same.refl _) (Dq.str _)⟩)
/-- xs[e]: the index is drawn -/
theorem et_sub {ty : TE} {Py : DV → Prop} (ha : EvX c ta ρ x) (hb : EvT c t ty ρ Py) (h : ∀ y, Py y → ∃ z, P z ∧ RX c (rIx c.K) x y z) : EvT c t (tSub c.K ta ty) ρ P := fun n H1 σ a w Q q =>
  .inl (et_op (P := P) (et_x ha) hb (fun u y e p => by rw [e]; exact h y p) n H1 σ a w Q q)
theorem et_if {R : Bool → Prop} (h : EvBT c t tt ρ R) (h1 : R true → EvT c t ta ρ P) (h2 : R false → EvT c t tb ρ P) : EvT c t (tIf tt ta tb) ρ P := fun n H1 σ a w Q q => h n H1 σ a w _ fun b H2 r g w2 => by
  cases b with
  | true => exact iteT (h1 r n H2 σ (a.gro n g w2) w2 Q fun v x H3 p g3 w3 o => q v x H3 p (g.trans g3) w3 o)
  | false => exact iteF (h2 r n H2 σ (a.gro n g w2) w2 Q fun v x H3 p g3 w3 o => q v x H3 p (g.trans g3) w3 o)
theorem ebt_pure {b : Bool} (h : EvB c tt ρ b) : EvBT c t tt ρ (· = b) := fun n H1 σ a w Q q => h H1 σ a Q fun H2 s => q b H2 rfl (Same.gr s) (w.same s)
theorem ebt_test (h : EvT c t te ρ fun x => ∃ b, x = .d (.bool b)) : EvBT c t (tTest te) ρ (fun _ => True) := fun n H1 σ a w Q q => h n H1 σ a w _ fun v x H2 p g w2 o => by
  obtain ⟨b, rfl⟩ := p
  exact ⟨b, dq_bool o, q b H2 trivial g w2⟩
theorem ebt_truth {K : PySem.W.Frag} (h : EvT c t te ρ fun x => ∃ b, x = .d (.bool b)) : EvBT c t (fun σ H Q => te σ H fun x H' => ∃ k, TruV K x H' k ∧ Q k H') ρ (fun _ => True) := fun n H1 σ a w Q q => h n H1 σ a w _ fun v x H2 p g w2 o => by
  obtain ⟨b, rfl⟩ := p
  obtain rfl := dq_bool o
  exact ⟨b, rfl, q b H2 trivial g w2⟩
/-! iterators -/
theorem eit_pure {its : List IV} (h : EvI c wi ρ its) : EvIT c t wi ρ (· = its) := fun n H1 σ a w R r => h H1 σ a R fun J H2 s ok => r J H2 its rfl (Same.gr s) (w.same s) ok
theorem eit_rng {Pn : Nat → Prop} (h : EvAT c t tl ρ fun l => ∃ n : Nat, l = [.d (.int n)] ∧ n ≤ 1000000 ∧ Pn n) : EvIT c t (iRng1 tl) ρ (fun its => ∃ ys : List Nat, (∃ n, ys = List.range n ∧ Pn n) ∧ its = ys.map fun i => .d (.int (0 + i))) := fun n H1 σ a w R r => h n H1 σ a w _ fun vs l H2 p g w2 o => by
  obtain ⟨k, rfl, hk, pk⟩ := p
  obtain ⟨v, rfl, o2⟩ := args1 o
  have e : (k : Int).toNat = k := by omega
  have q := r (Itr 0 k) H2 _ ⟨List.range k, ⟨k, rfl, pk⟩, rfl⟩ g w2 itOk_rng
  exact ⟨k, by rw [dq_int o2], by omega, by omega, by rw [e]; exact q⟩
theorem eit_list {K : PySem.W.Frag} {PI : List IV → Prop} (h : EvT c t te ρ fun x => ∃ xs : List D, x = .d (.list xs) ∧ PI (xs.map .d)) : EvIT c t (iSeq K te) ρ PI := fun n H1 σ a w R r => .inl (h n H1 σ a w _ fun v x H2 p g w2 o => by
  obtain ⟨xs, rfl, px⟩ := p
  obtain ⟨p, vs, rfl, h1, h2⟩ := dq_list o
  exact ⟨p, rfl, ⟨vs, sqL_of h1⟩, r _ H2 _ px g w2 (itOk_list h1 h2)⟩)
theorem eit_tup {K : PySem.W.Frag} {PI : List IV → Prop} (h : EvT c t te ρ fun x => ∃ xs : List D, x = .d (.tuple xs) ∧ PI (xs.map .d)) : EvIT c t (iSeq K te) ρ PI := fun n H1 σ a w R r => .inr (.inl (h n H1 σ a w _ fun v x H2 p g w2 o => by
  obtain ⟨xs, rfl, px⟩ := p
  obtain ⟨p, o, vs, rfl, h1, h0, h2⟩ := dq_tuple o
  exact ⟨p, rfl, ⟨vs, sqT_of h1⟩, r _ H2 _ px g w2 (itOk_tup h1 h2)⟩))
theorem eit_str {K : PySem.W.Frag} {PI : List IV → Prop} (h : EvT c t te ρ fun x => ∃ l : W, x = .d (ds l) ∧ PI (l.map fun n => .d (ds [n]))) : EvIT c t (iSeq K te) ρ PI := fun n H1 σ a w R r => .inr (.inr (h n H1 σ a w _ fun v x H2 p g w2 o => by
  obtain ⟨l, rfl, px⟩ := p
  exact ⟨sw l, dq_str o, r _ H2 _ px g w2 itOk_str⟩))
theorem Forall2.snoc {α β : Type} {R : α → β → Prop} {xs : List α} {ys : List β} {x : α} {y : β} (h : Paired R xs ys) (r : R x y) : Paired R (xs ++ [x]) (ys ++ [y]) := by
  induction h with
  | nil => exact .cons r .nil
  | cons a _ ih => exact .cons a ih
theorem et_lc {g : TG} {vs : List Nat} {α : Type} {it : α → IV} {Py : List α → Prop} {R : α → D → Prop} {js : List Nat} {ρ' : α → List DV} (hi : EvIT c t wi ρ fun its => ∃ ys : List α, Py ys ∧ its = ys.map it)
    (hg : ∀ ys x, Py ys → x ∈ ys → GOk c.K js g (it x) (wipeD ρ vs) (ρ' x)) (hj : SubJ js vs) (he : ∀ q ys x, Py ys → x ∈ ys → EvT (c.push q) t te (ρ' x) fun z => ∃ d, z = .d d ∧ R x d) (hz : ∀ ys, Py ys → Fits ys.length)
    (hP : ∀ ys zs, Py ys → Paired R ys zs → P (.d (.list zs))) :
    EvT c t (tLc wi g tYes te vs) ρ P := fun n H1 σ a w Q q => hi n H1 σ a w _ fun J H2 its ⟨ys, py, e⟩ g2 w2 ok q0 hq0 => by
  subst e
  have a2 := a.gro n g2 w2
  have hl : (ys.map it).length = ys.length := List.length_map _
  have nq : Tn (c.push q0) t := ⟨n.1, fun b hb => List.mem_cons_of_mem _ (n.2 b hb)⟩
  have htq : q0 ∉ t.L := w2.out hq0
  refine ⟨fun i m H' => m = ys.length - i ∧ i ≤ ys.length ∧ Gr t.L H2 H' ∧ TownAt t H' ∧ ∃ acc zs, H' q0 = some (.lst acc) ∧ DqAll (hid (q0 :: c.M) H') acc zs ∧ Paired R (ys.take i) zs,
    ⟨_, rfl, Nat.zero_le _, Same.gr (same_new hq0 _), w2.same (same_new hq0 _), [], [], upd_same, .nil, .nil⟩, ?_⟩
  rintro i m H' ⟨rfl, hi', gs, wt, acc, zs, e1, e2, e3⟩
  have s3 : Same (hid c.M H2) (hid (q0 :: c.M) H') := fun b o e => by
    obtain ⟨h1, h2⟩ := hid_some e
    have hb : b ≠ q0 := ne_of_none h2 hq0
    rw [hid_out (by simp [hb, h1])]
    exact gs b o (fun z => h1 (n.2 b z)) h2
  have lv : Live (q0 :: c.M) H' := fun b hb => by
    rcases List.mem_cons.mp hb with rfl | hb
    · rw [e1]; exact fun z => by cases z
    · exact (a2.gro n gs wt).lv b hb
  have hacc : acc.length ≤ i := by
    rw [dqAll_len e2, ← e3.length, List.length_take]; exact Nat.min_le_left _ _
  by_cases hlt : i < ys.length
  · refine .inr ⟨ok.go _ i H' s3 lv (by rw [hl]; exact hlt), _, fun H'' z => z, fun v H3 y => ?_⟩
    obtain ⟨s4, itv, f1, f2⟩ := ok.yld _ i H' v H3 s3 lv (by rw [hl]; exact hlt) y
    obtain ⟨x, hx, rfl⟩ : ∃ x, ys[i]? = some x ∧ it x = itv := by
      rw [List.getElem?_map] at f1
      cases h : ys[i]? with
      | none => rw [h] at f1; cases f1
      | some x => rw [h] at f1; exact ⟨x, rfl, Option.some.inj f1⟩
    have hmem : x ∈ ys := List.mem_of_getElem? hx
    have A3 : Env c.K (hid (q0 :: c.M) H3) (wipe σ vs) (wipeD ρ vs) := ((a2.env.mono s3).mono (Same.hid s4)).wipe vs
    refine hg ys x py hmem (q0 :: c.M) H3 (wipe σ vs) v _ A3 f2 fun σ' e' w' => ⟨?_, ?_⟩
    · rw [w' vs hj]; exact wipe_wipe fun j hj => hj
    · have at3 : At (c.push q0) H3 σ' (ρ' x) := ⟨(a2.gr.trans (gs.mono n.1)).trans (Same.gr s4), lv.same s4, e'⟩
      refine eb_yes H3 σ' at3 _ fun H4 s5 => ?_
      refine iteT ?_
      refine he q0 ys x py hmem nq H4 σ' (at3.same s5) ((wt.same s4).same s5) _ fun v' z H5 pz g6 w6 o6 => ?_
      obtain ⟨d, rfl, rd⟩ := pz
      have e5 : H5 q0 = some (.lst acc) := g6 _ _ htq (s5 _ _ (s4 _ _ e1))
      have sh : Same (hid (q0 :: c.M) H') (hid (q0 :: c.M) H5) := (Same.hid (s4.trans s5)).trans (Gr.hidT nq g6)
      have up : Same (hid (q0 :: c.M) H5) (hid (q0 :: c.M) (upd H5 q0 (.lst (acc ++ [v'])))) := fun b o eb => by
        obtain ⟨h1, h2⟩ := hid_some eb
        rw [hid_out h1, upd_ne fun z => h1 (by rw [z]; exact List.mem_cons_self)]; exact h2
      refine ⟨acc, e5, Nat.lt_of_le_of_lt (Nat.le_trans hacc (Nat.le_of_lt (Nat.lt_of_lt_of_le hlt (hz ys py)))) (by decide), ys.length - (i + 1), by omega, rfl, hlt, fun b o nb eb => ?_, ?_, acc ++ [v'], zs ++ [d], upd_same, ?_, ?_⟩
      · rw [upd_ne (ne_of_none eb hq0)]; exact g6 _ _ nb (s5 _ _ (s4 _ _ (gs _ _ nb eb)))
      · refine t.gr _ _ [q0] w6 (fun b o nb eb => by rw [upd_ne (by simpa using nb)]; exact eb) fun b hb => ?_
        rw [List.mem_singleton.mp hb]
        exact ⟨htq, fun o eo => .inl ⟨acc, by rw [e5] at eo; exact (Option.some.inj eo).symm⟩⟩
      · exact dqAll_app (dqAll_mono up _ _ (dqAll_mono sh _ _ e2)) (.cons (dq_mono up _ _ o6) .nil)
      · rw [List.take_add_one, hx]; exact Forall2.snoc e3 rd
  · have e : i = ys.length := by omega
    subst e
    rw [List.take_length] at e3
    have hn : q0 ∉ c.M := fun z => a2.lv q0 z hq0
    exact .inl ⟨ok.stop _ _ H' s3 lv (by rw [hl]; exact Nat.le_refl _), q _ _ H' (hP ys zs py e3) (g2.trans gs) wt (.lst (by show hid c.M H' q0 = _; rw [hid_out hn]; exact e1) (dqAll_mono hid_cons _ _ e2))⟩
end
/-! statements -/
structure StaT (K : PySem.W.Frag) (M : List Addr) (t : Tw) (H : Hp) (σ : L2.St) (ρ : List DV) : Prop where
  sta : Sta K M H σ ρ
  tm : ∀ b ∈ t.L, b ∈ M
  tw : TownAt t H
abbrev czT (K : PySem.W.Frag) (M : List Addr) (t : Tw) (H : Hp) : Cz := ⟨K, M, t.L, H⟩
section
variable {K : PySem.W.Frag} {M : List Addr} {t : Tw} {H : Hp} {σ : L2.St} {ρ : List DV} {D : Ends} {te : TE} {tt : TT} {tu tw tz : TS} {i : Nat} {P : DV → Prop}
theorem StaT.at (s : StaT K M t H σ ρ) : At (czT K M t H) H σ ρ := ⟨Gr.refl _ _, s.sta.lv, s.sta.env⟩
theorem StaT.n (s : StaT K M t H σ ρ) : Tn (czT K M t H) t := ⟨fun _ h => h, s.tm⟩
theorem StaT.of {H' : Hp} {σ' : L2.St} {ρ' : List DV} (s : StaT K M t H σ ρ) (h : Same H H') (a : Sta K M H' σ' ρ') : StaT K M t H' σ' ρ' := ⟨a, s.tm, s.tw.same h⟩
theorem StaT.gro {H' : Hp} (s : StaT K M t H σ ρ) (g : Gr t.L H H') (w : TownAt t H') : StaT K M t H' σ ρ := by
  have a := s.at.gro s.n g w
  exact ⟨⟨a.lv, a.env⟩, s.tm, w⟩
theorem StaT.set {v : V} {x : DV} (s : StaT K M t H σ ρ) (h : VOk K (hid M H) v x) : StaT K M t H (σ.set i (some v)) (ρ.set i x) := ⟨s.sta.set h, s.tm, s.tw⟩
theorem qt_asg (s : StaT K M t H σ ρ) (h : EvT (czT K M t H) t te ρ P) (k : ∀ x σ' H', P x → Gr t.L H H' → StaT K M t H' σ' (ρ.set i x) → tz D σ' H') : tSeq (tAsg te (gName i)) tz D σ H :=
  h s.n H σ s.at s.tw _ fun v x H2 p g w o => k x _ H2 p g ((s.gro g w).set o)
theorem st_asg (s : StaT K M t H σ ρ) (h : EvT (czT K M t H) t te ρ P) (k : ∀ x σ' H', P x → Gr t.L H H' → StaT K M t H' σ' (ρ.set i x) → D.nx σ' H') : tAsg te (gName i) D σ H :=
  h s.n H σ s.at s.tw _ fun v x H2 p g w o => k x _ H2 p g ((s.gro g w).set o)
theorem st_ret (s : StaT K M t H σ ρ) (h : EvT (czT K M t H) t te ρ P) (k : ∀ v x H', P x → Gr t.L H H' → TownAt t H' → VOk K (hid M H') v x → D.rt v H') : tRet te D σ H := h s.n H σ s.at s.tw _ fun v x H2 p g w o => k v x H2 p g w o
theorem st_if {R : Bool → Prop} (s : StaT K M t H σ ρ) (h : EvBT (czT K M t H) t tt ρ R) (h1 : R true → ∀ H', Gr t.L H H' → StaT K M t H' σ ρ → tu D σ H') (h2 : R false → ∀ H', Gr t.L H H' → StaT K M t H' σ ρ → tw D σ H') : tIfS tt tu tw D σ H :=
  h s.n H σ s.at s.tw _ fun b H2 r g w => by
    cases b with
    | true => exact iteT (h1 r H2 g (s.gro g w))
    | false => exact iteF (h2 r H2 g (s.gro g w))
theorem qt_if {R : Bool → Prop} (s : StaT K M t H σ ρ) (h : EvBT (czT K M t H) t tt ρ R) (h1 : R true → ∀ H', Gr t.L H H' → StaT K M t H' σ ρ → tu { D with nx := tz D } σ H') (h2 : R false → ∀ H', Gr t.L H H' → StaT K M t H' σ ρ → tw { D with nx := tz D } σ H') : tSeq (tIfS tt tu tw) tz D σ H :=
  st_if (D := { D with nx := tz D }) s h h1 h2
end
end TD
set_option Elab.async false
set_option linter.all false
set_option maxRecDepth 100000
set_option maxHeartbeats 400000
/-! What a draw wants. -/
namespace TD
open PySem PySem.Spec PyProof.Rows L2 TP
section
variable {X : Cx}
def rGetL : V → V → Hp → VK → Prop := fun x y H Q => ∃ p xs i v, x = .ref p ∧ y = .int i ∧ 0 ≤ i ∧ i < 1000 ∧ H p = some (.lst xs) ∧ xs[i.toNat]? = some v ∧ Q v H
theorem get_list : PGet X rGetL := by
  intro pins s σ H o i ov iv Q I ro ri h
  obtain ⟨p, xs, k, v, rfl, rfl, h0, h1, hp, he, q⟩ := h
  cases ro
  obtain ⟨t, rfl⟩ := ri
  obtain ⟨its, r, pl, hz⟩ := I.list (.inl (.inl hp))
  obtain ⟨w, ew, rw'⟩ := r.get he
  exact wpAny_getItem_list pl.isList h0 (by omega) (by simpa using ew) ⟨v, H, I, rw', q⟩
theorem eqv_nil (ns : List Int) : PyData.eqv (.list (ns.map .int)) (.list []) = decide (ns = []) := by
  cases ns with
  | nil => rfl
  | cons a l => rfl
theorem dpAll_ints {K : PySem.W.Frag} {H : Hp} : ∀ ns : List Int, DpAll K H (ns.map V.int) (ns.map PyData.int)
  | [] => .nil
  | n :: ns => .cons (.int n) (dpAll_ints ns)
theorem plainAll_ints : ∀ ns : List Int, PyData.plainAll (ns.map .int) = true
  | [] => rfl
  | n :: ns => by show (PyData.plain (.int n) && PyData.plainAll (ns.map .int)) = true; rw [plainAll_ints ns]; rfl
/-- the script == [] -/
def rEqSc (K : PySem.W.Frag) : R2 := fun x y H Q => ∃ a ns b, x = .ref a ∧ SqL K H a (ns.map V.int) ∧ y = .ref b ∧ H b = some (.lst []) ∧ Q (.bl (decide (ns = []))) H
theorem op_eqSc (hu : X.A.units + 64 < cLine) : OpR X (compareOp .Eq) (rEqSc X.K) := by
  intro pins s σ H x y v u Q I rx ry h
  obtain ⟨a, ns, b, rfl, h1, rfl, h2, q⟩ := h
  have d1 : Dp X.K H (.ref a) (.list (ns.map .int)) := .lst h1 (dpAll_ints ns)
  have d2 : Dp X.K H (.ref b) (.list []) := .lst (.inl (.inl h2)) .nil
  obtain ⟨as, r1⟩ := Dp.reads I _ _ _ d1 rx
  obtain ⟨bs, r2⟩ := Dp.reads I _ _ _ d2 ry
  rw [← eqv_nil] at q
  exact SeqAt.eq_plain r1 r2 (show PyData.plainAll (ns.map .int) = true from plainAll_ints ns) rfl (by have h1 := Nat.min_le_right (PyData.list (ns.map .int)).depth (PyData.list []).depth; (have h2 : (PyData.list []).depth ≤ 1 := by decide); omega) ⟨.bl _, H, I, rfl, q⟩
end
section
variable {c : Cz} {K : PySem.W.Frag} {t : Addr} {ρ : List DV} {ta te : TE} {p r : Int}
theorem ead_nil : EvA c tNil ρ (([] : List D).map DV.d) := ea_nil
theorem ead_cons {tr : TA} {x : D} {xs : List D} (h : EvX c ta ρ (.d x)) (hr : EvA c tr ρ (xs.map DV.d)) : EvA c (tCons ta tr) ρ ((x :: xs).map DV.d) := ea_cons h hr
def Few (n : Nat) : Prop := n ≤ 1000
theorem ev_nilL : EvX c (tLst tNil) ρ (.d (.list [])) := ev_lst (xs := []) ea_nil (by decide)
theorem ev_lstD {ta : TA} {xs : List D} (h : EvA c ta ρ (xs.map DV.d)) (hz : Few xs.length) : EvX c (tLst ta) ρ (.d (.list xs)) := ev_lst h hz
theorem ev_tupD {ta : TA} {xs : List D} (h : EvA c ta ρ (xs.map DV.d)) (hz : Few xs.length) : EvX c (tTupF ta) ρ (.d (.tuple xs)) := ev_tup h hz
theorem rx_eqSc {ns : List Int} : RX c (rEqSc c.K) (.s ns) (.d (.list [])) (.d (.bool (decide (ns = [])))) := fun H1 _ _ u v hu hv Q q => by
  obtain ⟨a, rfl, ha⟩ := hu
  obtain ⟨b, vs, rfl, hb, hvs⟩ := dq_list hv
  cases hvs
  exact ⟨a, ns, b, rfl, L2.Same.seq hid_le ha, rfl, (hid_some hb).2, q _ H1 (Same.refl _) (Dq.bl _)⟩
theorem rx_modI {i j : Int} (h : 0 < j) : RX c (rI (fun _ j => 0 < j) fun i j => .int (i % j)) (.d (.int i)) (.d (.int j)) (.d (.int (i % j))) := rx_I (C := fun _ j => 0 < j) (g := fun i j => i % j) h
theorem rx_powI {i j : Int} (h : CPow i j) : RX c (rI CPow fun i j => .int (i ^ j.toNat)) (.d (.int i)) (.d (.int j)) (.d (.int (i ^ j.toNat))) := rx_I (C := CPow) (g := fun i j => i ^ j.toNat) h
theorem rx_mulU {i j : Int} (h : CMul i j ∨ CMulW i j) : RX c rMulU (.d (.int i)) (.d (.int j)) (.d (.int (i * j))) := h.elim rx_mulI rx_mulW
theorem ev_town1 (hT : c.T = []) (ht : c.H t = some (.lst [.int p, .int r])) (h : EvX c ta ρ (.v (.ref t))) : EvX c (tSub K ta (tC (.int 1))) ρ (.d (.int r)) := fun H1 σ a Q q => .inl (h H1 σ a _ fun v H2 s2 o2 => by
  obtain rfl : v = V.ref t := o2
  have g := a.gr; rw [hT] at g
  exact .inl ⟨t, _, 1, .int r, rfl, rfl, .inl (.inl (s2 _ _ (g.same _ _ ht))), rfl, q _ H2 s2 (Dq.int _)⟩)
theorem ev_town0 (hT : c.T = []) (ht : c.H t = some (.lst [.int p, .int r])) (h : EvX c ta ρ (.v (.ref t))) : EvX c (tSub K ta (tC (.int 0))) ρ (.d (.int p)) := fun H1 σ a Q q => .inl (h H1 σ a _ fun v H2 s2 o2 => by
  obtain rfl : v = V.ref t := o2
  have g := a.gr; rw [hT] at g
  exact .inl ⟨t, _, 0, .int p, rfl, rfl, .inl (.inl (s2 _ _ (g.same _ _ ht))), rfl, q _ H2 s2 (Dq.int _)⟩)
end
section
variable {K : PySem.W.Frag} {M : List Addr} {t : Addr} {H : Hp} {σ : L2.St} {ρ : List DV} {D : Ends} {te to : TE} {tz : TS} {p r n : Int}
/-- town[1] = e -/
theorem q_tput (s : Sta K M H σ ρ) (tm : t ∈ M) (ht : H t = some (.lst [.int p, .int r])) (h : EvX (cz K M H) te ρ (.d (.int n))) (ho : EvX (cz K M H) to ρ (.v (.ref t)))
    (k : ∀ H', Gr [t] H H' → H' t = some (.lst [.int p, .int n]) → Sta K M H' σ ρ → tz D σ H') : tSeq (tAsg te (gSub to (tC (.int 1)) rSetL)) tz D σ H :=
  h H σ s.at _ fun v H2 s2 o2 => by
    obtain rfl := dq_int o2
    refine ho H2 σ (s.at.same s2) _ fun u H3 s3 o3 => ?_
    obtain rfl : u = V.ref t := o3
    refine ⟨t, _, 1, 1, rfl, rfl, s3 _ _ (s2 _ _ ht), rfl, k _ (fun b o nb eb => ?_) upd_same (((s.same s2).same s3).write tm)⟩
    rw [upd_ne (by simpa using nb)]; exact s3 _ _ (s2 _ _ eb)
/-- town[0] += e -/
theorem q_tinc {ip : TIp} (s : Sta K M H σ ρ) (tm : t ∈ M) (ht : H t = some (.lst [.int p, .int r])) (h : EvX (cz K M H) te ρ (.d (.int n))) (ho : EvX (cz K M H) to ρ (.v (.ref t)))
    (hip : ∀ H Q, Q (.int (p + n)) H → ip (.int p) (.int n) H Q) (k : ∀ H', Gr [t] H H' → H' t = some (.lst [.int (p + n), .int r]) → Sta K M H' σ ρ → tz D σ H') : tSeq (tAugS to (tC (.int 0)) te rGetL ip rSetL) tz D σ H :=
  ho H σ s.at _ fun u H3 s3 o3 => by
    obtain rfl : u = V.ref t := o3
    have e3 := s3 _ _ ht
    refine ⟨t, _, 0, .int p, rfl, rfl, by decide, by decide, e3, rfl, h H3 σ (s.at.same s3) _ fun v H4 s4 o4 => ?_⟩
    obtain rfl := dq_int o4
    refine hip _ _ ⟨t, _, 0, 0, rfl, rfl, s4 _ _ e3, rfl, k _ (fun b o nb eb => ?_) upd_same (((s.same s3).same s4).write tm)⟩
    rw [upd_ne (by simpa using nb)]; exact s4 _ _ (s3 _ _ eb)
end
section
variable {P : Program} {w : World} {K : PySem.W.Frag} {mg : Str → Option Value} {base : Heap}
/-- the rule for a def that draws -/
theorem def_okT {x : Str} {st : Stmt} {N ps : List Str} {k : Nat} {ok : Addr → List DV → (DV → Prop) → Prop} (d : ∃ f, DefAt K x st f) (hmg : ∀ f, PySem.W.nsIn K mainGlobals x = some (some (.ref f)) → mg x = some (.ref f)) (S : FnScope N ps (defScope st))
    (hbind : ∀ (kV doc pm : Value) (an : Option Addr) (cdv ct : Value) (us : List Value), us.length = ps.length → bindArgs (PySem.W.fnOf x x (defArgs st) (defBody st) (defScope st) .none kV doc pm an cdv ct) ⟨us, []⟩ = pure (ps.zip us))
    (len : ∀ t xs Pd, ok t xs Pd → xs.length = ps.length)
    (body : ∀ (f : Addr) (cdv : Value) (A : Around) (outer : List PySem.Env) (s : Shared) (H : Hp) (vs : List V) (E : XK), Room k (A.deeper (envOfC x (defScope st) s.heap.objs.size f cdv)) →
      ∃ tb, PSs (cxOf (L2N.CX P w) P w K mg base N x (defScope st) f cdv A outer s H E) (defBody st) tb ∧ ∀ (M : List Addr) (t : Tw) (it : IsTown t) (xs : List DV) (Pd : DV → Prop) (Q : VK), ok t.a xs Pd → StaT K M t H (L2.start N vs) (xs ++ List.replicate (N.length - xs.length) .z) →
        (∀ v y H', Pd y → Gr t.L H H' → TownAt t H' → VOk K (hid M H') v y → Q v H') → tb { nx := fun _ H' => Q .non H', rt := Q } (L2.start N vs) H) :
    FnIs P w K mg base (L2N.CX P w) (k + 1) x ps (spT K ok) := by
  obtain ⟨f, at_, ⟨oc, od, kV, doc, pm, an, cdv, ct, osl, lk, cd⟩, kp⟩ := d
  have F := fun_mk (st := st) lk cd kp
  refine ⟨f, _, okXN F S (fun vs H Q E h => ?_) (fun cdv A outer s H vs Q E hr h => ?_), hmg f at_, kp, F.binds hbind⟩
  · obtain ⟨M, t, xs, Pd, _, _, _, _, ha, h, _⟩ := h
    rw [ha.len]
    exact len t.a xs Pd h
  · obtain ⟨M, t, xs, Pd, it, tm, lv, tw, ha, h, q⟩ := h
    obtain ⟨tb, h1, h2⟩ := body f cdv A outer s H vs E hr
    exact ⟨tb, h1, h2 M t it xs Pd Q h ⟨⟨lv, env_start ha⟩, tm, tw⟩ q⟩
end
end TD
set_option Elab.async false
set_option linter.all false
set_option maxRecDepth 100000
set_option maxHeartbeats 400000
/-! Sorting; dicts that the town fills. -/
namespace TD
open PySem PySem.Spec PyProof.Rows L2 TP
/-! ### sorted -/
def sortW (l : List W) : List W := l.mergeSort fun a b => decide (a ≤ b)
theorem sortW_perm (l : List W) : (sortW l).Perm l := List.mergeSort_perm _ _
theorem sortW_sorted (l : List W) : (sortW l).Pairwise (· ≤ ·) := by
  have := List.pairwise_mergeSort (le := fun (a b : W) => decide (a ≤ b)) (fun a b c h1 h2 => decide_eq_true (List.le_trans (of_decide_eq_true h1) (of_decide_eq_true h2)))
    (fun a b => by
      rcases List.le_total a b with h | h
      · rw [decide_eq_true h]; rfl
      · rw [decide_eq_true h, Bool.or_true]) l
  exact this.imp fun h => of_decide_eq_true h
theorem sorted_eq {l m : List W} (p : l.Perm m) (s : l.Pairwise (· ≤ ·)) : l = sortW m :=
  List.Perm.eq_of_pairwise (fun a b _ _ h1 h2 => List.le_antisymm h1 h2) s (sortW_sorted m) (p.trans (sortW_perm m).symm)
theorem ltCps_iff (a b : List Nat) : ltCps a b = decide (a < b) := by
  induction a generalizing b with
  | nil => cases b <;> simp [ltCps]
  | cons x a ih =>
    cases b with
    | nil => simp [ltCps]
    | cons y b =>
      rw [ltCps, ih]
      rw [Bool.eq_iff_iff]
      simp [List.cons_lt_cons_iff]
theorem risingS_le : ∀ (ys : List Str) (p : Str), risingS p ys = true → (∀ y ∈ ys, tl p ≤ tl y) ∧ (ys.map tl).Pairwise (· ≤ ·)
  | [], _, _ => ⟨fun _ h => by simp at h, .nil⟩
  | y :: ys, p, h => by
    have h' : (!ltCps (tl y) (tl p) && risingS y ys) = true := h
    rw [Bool.and_eq_true, ltCps_iff] at h'
    obtain ⟨h1, h2⟩ := h'
    have hpy : tl p ≤ tl y := List.not_lt.mp (by simpa using h1)
    obtain ⟨i1, i2⟩ := risingS_le ys y h2
    refine ⟨fun z hz => ?_, .cons (fun z hz => ?_) i2⟩
    · rcases List.mem_cons.mp hz with rfl | hz
      · exact hpy
      · exact List.le_trans hpy (i1 z hz)
    · obtain ⟨z', hz', rfl⟩ := List.mem_map.mp hz
      exact i1 z' hz'
theorem sortedS_le {ys : List Str} (h : sortedS ys = true) : (ys.map tl).Pairwise (· ≤ ·) := by
  cases ys with
  | nil => exact .nil
  | cons y ys =>
    obtain ⟨i1, i2⟩ := risingS_le ys y h
    refine .cons (fun z hz => ?_) i2
    obtain ⟨z', hz', rfl⟩ := List.mem_map.mp hz
    exact i1 z' hz'
section
variable {X : Cx}
def rSortD : List V → Hp → VK → Prop := fun xs H Q => ∃ (a : Addr) (kvs : List (Key × V)) (ks : List Str), xs = [.ref a] ∧ Rd H a (.dK kvs) ∧ kvs.map (·.1) = ks.map Sum.inr ∧ ks.length < 64 ∧
    ∀ ys p, ys.Perm ks → sortedS ys = true → H p = none → Q (.ref p) (upd H p (.lst (ys.map V.str)))
/-- sorted of a list of alike data -/
def rSortQ : List V → Hp → VK → Prop := fun xs H Q => ∃ (H0 : Hp) (a : Addr) (vs : List V) (ds : List D), xs = [.ref a] ∧ Same H0 H ∧ H a = some (.lst vs) ∧ DqAll H0 vs ds ∧ PySem.W.AllAlike ds ∧ PySem.W.Sortable ds ∧ (∀ d ∈ ds, d.depth ≤ 60) ∧
    ∀ vs' p, DqAll H0 vs' (ds.mergeSort (PySem.W.dataLe false id)) → H p = none → Q (.ref p) (upd H p (.lst vs'))
theorem each_q {H : Hp} : ∀ {vs : List V} {ds : List D} {us : List Value}, DqAll H vs ds → Vals vs us → PySem.W.EachIs (fun (u : Value) (d : D) => ∃ v, RelV v u ∧ Dq H v d) us ds
  | _, _, _, .nil, .nil => .nil
  | _, _, _, .cons h t, .cons r rs => .cons ⟨_, r, h⟩ (each_q t rs)
theorem q_each {H : Hp} : ∀ {us : List Value} {ds : List D}, PySem.W.EachIs (fun (u : Value) (d : D) => ∃ v, RelV v u ∧ Dq H v d) us ds → ∃ vs, Vals vs us ∧ DqAll H vs ds
  | _, _, .nil => ⟨[], .nil, .nil⟩
  | _, _, .cons ⟨v, r, h⟩ t => by
    obtain ⟨vs, r2, h2⟩ := q_each t
    exact ⟨v :: vs, .cons r r2, .cons h h2⟩
theorem call_sortQ (hu : X.A.units + 64 < cLine) : CallR X (.builtin "sorted") rSortQ := by
  intro pins s σ H xs us Q I r h
  obtain ⟨H0, a, vs, ds, rfl, h0, ha, hd, hal, hs, hz, q⟩ := h
  obtain ⟨u, rfl, rx⟩ := vals1 r
  cases rx
  obtain ⟨its, rv, pl, hlen⟩ := I.list (.inl (.inl ha))
  have e := each_q hd rv
  have er : PySem.W.EachIs (fun (v : Value) (b : D) => ∃ as, Reads s.heap v (id b) as) its ds := e.mono fun u d ⟨v, r, h⟩ => rd_q I (dq_mono h0 _ _ h) r
  have em : ds.map id = ds := List.map_id _
  refine PySem.W.sorted_data (enc := id) (vs := its) pl.isList e er (by rw [em]; exact hal) (by rw [em]; exact hs) (by rw [← dqAll_len hd]; exact hlen) (fun b hb => by
    have := hz b hb
    show X.A.units + 2 + b.depth < cLine
    omega) fun out ho eo => ?_
  obtain ⟨vs', r2, h2⟩ := q_each eo
  obtain ⟨ep, he'⟩ := PyProof.Rows.sortedAll_at s.heap its out.toArray
  exact ⟨.ref _, upd H (s.heap.objs.size + 1) (.lst vs'), I.laid (t' := s.toks) (fun _ _ => PyProof.Rows.sortedAll_old) (Nat.le_succ _) ⟨by rw [r2.length, ho, ← dqAll_len hd]; exact hlen, out, ep, r2, he'⟩, rfl, q vs' _ h2 (I.hok.fresh (Nat.le_succ _))⟩
def rSortU : List V → Hp → VK → Prop := fun xs H Q => rSortD xs H Q ∨ rSortQ xs H Q
theorem call_sortedU (hc : X.calm = true) (hu : X.A.units + 64 < cLine) : CallR X (.builtin "sorted") rSortU := CallR.or (call_sortedD hc) (call_sortQ hu)
end
section
variable {c : Cz} {K : PySem.W.Frag}
theorem map_tl_sw (l : List W) : (l.map sw).map tl = l := by
  rw [List.map_map]
  have : (tl ∘ sw) = (id : W → W) := by funext x; exact tl_sw x
  rw [this, List.map_id]
theorem map_sw_tl (l : List Str) : (l.map tl).map sw = l := by
  rw [List.map_map]
  have : (sw ∘ tl) = (id : Str → Str) := by funext x; exact sw_tl x
  rw [this, List.map_id]
theorem dqAll_ws {H : Hp} : ∀ l : List W, DqAll H (l.map fun w => V.str (sw w)) (l.map ds)
  | [] => .nil
  | a :: l => .cons (.str _) (dqAll_ws l)
theorem rc_sortT {t : Tb} (h : t.length < 64) : RCX c rSortU [.k (encT t)] (.d (encW (sortW (t.map (·.1))))) := fun H1 g lv vs ha Q q => by
  obtain ⟨v, rfl, o⟩ := args1 ha
  obtain ⟨a, kv, rfl, h1, h2⟩ := o
  have ek : kv.map (·.1) = ((t.map (·.1)).map sw).map Sum.inr := by
    have : ∀ {kv : List (Key × V)} {t : Tb}, KD (hid c.M H1) kv (encT t) → kv.map (·.1) = ((t.map (·.1)).map sw).map Sum.inr := by
      intro kv t
      induction t generalizing kv with
      | nil => intro h; cases h; rfl
      | cons p t ih =>
        intro h
        cases h with
        | cons hh tt => rw [List.map_cons, ih tt, hh.1]; rfl
    exact this h2
  refine .inl ⟨a, kv, (t.map (·.1)).map sw, rfl, .inl (hid_some h1).2, ek, by rw [List.length_map, List.length_map]; exact h, fun ys p hp hs hn => q _ _ (same_new hn _) ?_⟩
  have e : ys.map tl = sortW (t.map (·.1)) := sorted_eq (by have := hp.map tl; rwa [map_tl_sw] at this) (sortedS_le hs)
  have e2 : ys = (sortW (t.map (·.1))).map sw := by rw [← e, map_sw_tl]
  rw [e2, List.map_map]
  exact new_lst lv hn (dqAll_ws _)
/-- sorted of a list of texts -/
theorem rc_sortW {l : List W} : RCX c rSortU [.d (encW l)] (.d (encW (sortW l))) := fun H1 g lv vs ha Q q => by
  obtain ⟨v, rfl, o⟩ := args1 ha
  obtain ⟨a, ws, rfl, h1, h2⟩ := dq_list o
  have hm : ∀ d ∈ l.map ds, ∃ w, d = ds w := fun d hd => by obtain ⟨w, _, rfl⟩ := List.mem_map.mp hd; exact ⟨w, rfl⟩
  refine .inr ⟨hid c.M H1, a, ws, l.map ds, rfl, hid_le, (hid_some h1).2, h2, fun d hd d' hd' => ?_, .inr fun d hd => ?_, fun d hd => ?_, fun vs' p hv hn => q _ _ (same_new hn _) (new_lst lv hn ?_)⟩
  · obtain ⟨w, rfl⟩ := hm d hd
    obtain ⟨w', rfl⟩ := hm d' hd'
    rfl
  · obtain ⟨w, rfl⟩ := hm d hd
    exact ⟨fun z => by (cases z), fun xs z => by (cases z)⟩
  · obtain ⟨w, rfl⟩ := hm d hd
    exact Nat.zero_le _
  · have e : (l.map ds).mergeSort (PySem.W.dataLe false id) = (sortW l).map ds := by
      unfold sortW
      refine (List.map_mergeSort fun a _ b _ => ?_).symm
      rw [PySem.W.dataLe_eq]
      show decide (a ≤ b) = !PySem.W.dataLt (ds b) (ds a)
      rw [PySem.W.dataLt_str]
      show decide (a ≤ b) = !decide (tl (sw b) < tl (sw a))
      rw [tl_sw, tl_sw, Bool.eq_iff_iff]
      simp [List.not_lt]
    rw [e] at hv; exact hv
end
end TD
set_option Elab.async false
set_option linter.all false
set_option maxRecDepth 100000
set_option maxHeartbeats 400000
/-! Dicts and loops under the town. -/
namespace TD
open PySem PySem.Spec PyProof.Rows L2 TP
section
variable {K : PySem.W.Frag} {M : List Addr} {t : Tw} {H : Hp} {σ : L2.St} {ρ : List DV} {D : Ends} {te td ty : TE} {tl : TA} {wi : TI} {g : TG} {tt : TT} {tu tw tz : TS} {i : Nat} {P : DV → Prop}
theorem StaT.push {p : Addr} {o : HO} (s : StaT K M t H σ ρ) (hp : H p = none) : StaT K (p :: M) t (upd H p o) σ ρ := ⟨s.sta.push hp, fun b hb => List.mem_cons_of_mem _ (s.tm b hb), s.tw.same (same_new hp _)⟩
/-- name = dict(pairs), the pairs are drawn -/
theorem qt_newD {Pk : Sc → Prop} (s : StaT K M t H σ ρ) (h : EvAT (czT K M t H) t tl ρ fun l => ∃ kvs : Sc, l = [.d (.list (kvs.map encP))] ∧ Pk kvs)
    (k : ∀ p kvs σ' H', Pk kvs → H p = none → p ∉ M → Gr t.L H H' → StaT K (p :: M) t H' σ' (ρ.set i (.v (.ref p))) → MK (p :: M) H' p (encT (writeT kvs)) → tz D σ' H') : tSeq (tAsg (tCB (rDictP K) tl) (gName i)) tz D σ H :=
  h s.n H σ s.at s.tw _ fun vs l H2 pk g w o => by
    obtain ⟨kvs, rfl, pk⟩ := pk
    obtain ⟨v, rfl, o'⟩ := args1 o
    obtain ⟨a, ws, rfl, h1, h2⟩ := dq_list o'
    have ep : kvs.map encP = (kvs.map fun p => ((Sum.inr (sw p.1) : Key), ds p.2)).map pairD := by rw [List.map_map]; rfl
    rw [ep] at h2
    obtain ⟨kv, p1, p2⟩ := pairs_q (K := K) h2
    refine ⟨a, ws, kv, rfl, .inl (sqL_of h1), p1, fun p hp => ?_⟩
    have s2 := s.gro g w
    have nm : p ∉ M := s2.sta.lv.new hp
    have hH : H p = none := by
      cases e : H p with
      | none => rfl
      | some o =>
        by_cases q : p ∈ t.L
        · exact absurd hp (t.live _ w p q)
        · rw [g p o q e] at hp; cases hp
    have sn := same_new hp (HO.dK (mergeK [] kv))
    refine k p kvs _ _ pk hH nm (g.trans (Same.gr sn)) ((s2.push hp).set (x := .v (.ref p)) rfl) ⟨List.mem_cons_self, _, upd_same, ?_⟩
    have e := kmerge_enc [] kvs
    have e2 : (encT ([] : Tb)) = [] := rfl
    rw [e2] at e
    have m := kd_merge p2 (.nil : KD (hid M H2) [] [])
    rw [e] at m
    exact m.mono (hid_new hp sn)
/-- p[e] = f, both drawn -/
theorem st_dput {Pv Pk : W → Prop} {p : Addr} {tb : Tb} (s : StaT K M t H σ ρ) (m : MK M H p (encT tb)) (hpt : p ∉ t.L) (ho : EvX (czT K M t H) td ρ (.v (.ref p))) (he : EvT (czT K M t H) t ty ρ fun x => ∃ w, x = .d (ds w) ∧ Pk w) (hf : EvT (czT K M t H) t te ρ fun x => ∃ w, x = .d (ds w) ∧ Pv w) (hz : tb.length ≤ 1000000)
    (k : ∀ kw vw H', Pk kw → Pv vw → Gr (p :: t.L) H H' → StaT K M t H' σ ρ → MK M H' p (encT (put tb kw vw)) → D.nx σ H') : sDPut td ty te D σ H :=
  hf s.n H σ s.at s.tw _ fun w x H2 p2 g2 w2 o2 => by
    obtain ⟨vw, rfl, pv⟩ := p2
    have a2 := s.at.gro s.n g2 w2
    refine ho H2 σ a2 _ fun v H3 s3 o3 => ?_
    obtain rfl : v = V.ref p := o3
    refine he s.n H3 σ (a2.same s3) (w2.same s3) _ fun u y H4 p4 g4 w4 o4 => ?_
    obtain ⟨kw, rfl, pk⟩ := p4
    have ekw := dq_str o4
    subst ekw
    have evw := dq_str o2
    subst evw
    obtain ⟨mp, kv, a, b⟩ := m
    have np : p ∉ t.L := hpt
    have g24 : Gr t.L H H4 := (g2.trans (Same.gr s3)).trans g4
    have e4 : H4 p = some (.dK kv) := g24 _ _ np a
    have b4 : KD (hid M H4) kv (encT tb) := b.mono (Gr.hidT s.n g24)
    have hl : kv.length ≤ 1000000 := by rw [Paired.length b]; simpa using hz
    refine ⟨p, _, rfl, DPut.k (k := Sum.inr (sw kw)) e4 (Nat.lt_of_le_of_lt hl (by decide)), ?_⟩
    have st4 := s.gro g24 w4
    have e : hid M (upd H4 p (.dK (putK kv (.inr (sw kw)) (.str (sw vw))))) = hid M H4 := hid_upd_in mp
    refine k kw vw _ pk pv (fun b o n eb => ?_) ⟨st4.sta.write mp, s.tm, ?_⟩ ⟨mp, _, upd_same, ?_⟩
    · rw [upd_ne (by simp at n; exact n.1)]; exact g24 _ _ (fun z => n (List.mem_cons_of_mem _ z)) eb
    · refine t.gr _ _ [p] w4 (fun b o nb eb => by rw [upd_ne (by simpa using nb)]; exact eb) fun b hb => ?_
      rw [List.mem_singleton.mp hb]
      exact ⟨hpt, fun o eo => .inr ⟨kv, by rw [e4] at eo; exact (Option.some.inj eo).symm⟩⟩
    · rw [e, ← kput_enc]; exact kd_put b4 _ (.str _)
theorem qt_dput {Pv Pk : W → Prop} {p : Addr} {tb : Tb} (s : StaT K M t H σ ρ) (m : MK M H p (encT tb)) (hpt : p ∉ t.L) (ho : EvX (czT K M t H) td ρ (.v (.ref p))) (he : EvT (czT K M t H) t ty ρ fun x => ∃ w, x = .d (ds w) ∧ Pk w) (hf : EvT (czT K M t H) t te ρ fun x => ∃ w, x = .d (ds w) ∧ Pv w) (hz : tb.length ≤ 1000000)
    (k : ∀ kw vw H', Pk kw → Pv vw → Gr (p :: t.L) H H' → StaT K M t H' σ ρ → MK M H' p (encT (put tb kw vw)) → tz D σ H') : tSeq (sDPut td ty te) tz D σ H := st_dput (D := { D with nx := tz D }) s m hpt ho he hf hz k
/-- shown again -/
theorem unhideK {p : Addr} {kvs : List (Key × PyData)} (s : StaT K (p :: M) t H σ ρ) (np : p ∉ M) (hpt : p ∉ t.L) (m : MK (p :: M) H p kvs) (h : ρ[i]? = some (.v (.ref p))) : StaT K M t H σ (ρ.set i (.k kvs)) := by
  have d := m.data (K := K) (M' := M) (fun b hb => List.mem_cons_of_mem _ hb) np
  refine ⟨⟨fun b hb => s.sta.lv b (List.mem_cons_of_mem _ hb), ?_⟩, ?_, s.tw⟩
  · obtain ⟨v, e1, e2⟩ := s.sta.env.get h (by intro z; cases z)
    obtain rfl : v = V.ref p := e2
    have := (s.sta.env.mono (hid_cons (M := M))).set i (SOk.of (x := .k kvs) d)
    have e3 : σ.set i (some (.ref p)) = σ := by
      apply List.ext_getElem?
      intro j
      rw [List.getElem?_set]
      split
      · rename_i q; subst q; rw [e1]; split
        · rfl
        · rename_i q2; rw [List.getElem?_eq_none (by omega)] at e1; cases e1
      · rfl
    rw [e3] at this; exact this
  · exact fun b hb => (List.mem_cons.mp (s.tm b hb)).elim (fun e => absurd (e ▸ hb) hpt) id
/-- a loop whose source is drawn -/
theorem st_for {α : Type} {it : α → IV} {js : List Nat} {up : α → List DV → List DV} {Py : List α → Prop} (s : StaT K M t H σ ρ) (hi : EvIT (czT K M t H) t wi ρ fun its => ∃ ys : List α, Py ys ∧ its = ys.map it) (hg : ∀ y ρ', GOk K js g (it y) ρ' (up y ρ'))
    (Pv : List α → Nat → List DV → Hp → Prop) (h0 : ∀ ys H1, Py ys → Gr t.L H H1 → TownAt t H1 → Pv ys 0 ρ H1)
    (hs : ∀ ys i y σ' ρ' H' H3 Hb, Py ys → ys[i]? = some y → Same (hid M H) (hid M Hb) → Same (hid M Hb) (hid M H') → Pv ys i ρ' H' → Same H' H3 → Sta K M H3 σ' (up y ρ') → tu { D with nx := LS K M (Pv ys (i + 1)) Hb, ct := LS K M (Pv ys (i + 1)) Hb, bk := D.nx } σ' H3)
    (hd : ∀ ys σ' ρ' H', Py ys → Same (hid M H) (hid M H') → Sta K M H' σ' ρ' → Pv ys ys.length ρ' H' → D.nx σ' H') : tFor wi g tu D σ H := hi s.n H σ s.at s.tw _ fun J H1 its ⟨ys, py, e⟩ gr wt ok => by
  subst e
  have hl : (ys.map it).length = ys.length := List.length_map _
  have s1' : Same (hid M H) (hid M H1) := Gr.hidT s.n gr
  refine ⟨fun i m σ' H' => m = ys.length - i ∧ i ≤ ys.length ∧ Same (hid M H1) (hid M H') ∧ ∃ ρ', Sta K M H' σ' ρ' ∧ Pv ys i ρ' H', ⟨_, rfl, Nat.zero_le _, Same.refl _, ρ, (s.gro gr wt).sta, h0 ys H1 py gr wt⟩, ?_⟩
  rintro i m σ' H' ⟨rfl, hi', sm, ρ', st, pv⟩
  by_cases hlt : i < ys.length
  · refine .inr ⟨ok.go M i H' sm st.lv (by rw [hl]; exact hlt), LS K M (Pv ys (i + 1)) H1, ?_, fun v H3 y => ?_⟩
    · rintro σ'' H'' ⟨ρ'', s5, st5, pv5⟩
      exact ⟨ys.length - (i + 1), by omega, rfl, hlt, s5, ρ'', st5, pv5⟩
    · obtain ⟨s4, itv, f1, f2⟩ := ok.yld M i H' v H3 sm st.lv (by rw [hl]; exact hlt) y
      obtain ⟨x, hx, rfl⟩ : ∃ x, ys[i]? = some x ∧ it x = itv := by
        rw [List.getElem?_map] at f1
        cases h : ys[i]? with
        | none => rw [h] at f1; cases f1
        | some x => rw [h] at f1; exact ⟨x, rfl, Option.some.inj f1⟩
      have st3 := st.same s4
      refine hg x ρ' M H3 σ' v _ st3.env f2 fun σ2 e2 _ => ?_
      exact hs ys i x σ2 ρ' H' H3 H1 py hx s1' sm pv s4 ⟨st3.lv, e2⟩
  · have e : i = ys.length := by omega
    subst e
    exact .inl ⟨ok.stop M _ H' sm st.lv (by rw [hl]; exact Nat.le_refl _), hd ys σ' ρ' H' py (s1'.trans sm) st pv⟩
theorem qt_for {α : Type} {it : α → IV} {js : List Nat} {up : α → List DV → List DV} {Py : List α → Prop} (s : StaT K M t H σ ρ) (hi : EvIT (czT K M t H) t wi ρ fun its => ∃ ys : List α, Py ys ∧ its = ys.map it) (hg : ∀ y ρ', GOk K js g (it y) ρ' (up y ρ'))
    (Pv : List α → Nat → List DV → Hp → Prop) (h0 : ∀ ys H1, Py ys → Gr t.L H H1 → TownAt t H1 → Pv ys 0 ρ H1)
    (hs : ∀ ys i y σ' ρ' H' H3 Hb, Py ys → ys[i]? = some y → Same (hid M H) (hid M Hb) → Same (hid M Hb) (hid M H') → Pv ys i ρ' H' → Same H' H3 → Sta K M H3 σ' (up y ρ') → tu { D with nx := LS K M (Pv ys (i + 1)) Hb, ct := LS K M (Pv ys (i + 1)) Hb, bk := tz D } σ' H3)
    (hd : ∀ ys σ' ρ' H', Py ys → Same (hid M H) (hid M H') → Sta K M H' σ' ρ' → Pv ys ys.length ρ' H' → tz D σ' H') : tSeq (tFor wi g tu) tz D σ H := st_for (D := { D with nx := tz D }) s hi hg Pv h0 hs hd
end
section
variable {c : Cz} {t : Tw} {ρ : List DV} {ta : TE} {ta2 : TA}
/-- one drawn argument -/
theorem eat_one {P : DV → Prop} (h : EvT c t ta ρ P) : EvAT c t (tCons ta tNil) ρ (fun l => ∃ x, l = [x] ∧ P x) := fun n H1 σ a w Q q => eat_cons h eat_nil n H1 σ a w Q fun vs l H2 p g w2 o => by
  obtain ⟨x, xs, rfl, px, rfl⟩ := p
  exact q vs _ H2 ⟨x, rfl, px⟩ g w2 o
theorem EvAT.imp {P P' : List DV → Prop} (h : EvAT c t ta2 ρ P) (i : ∀ x, P x → P' x) : EvAT c t ta2 ρ P' := fun n H1 σ a w Q q => h n H1 σ a w Q fun v x H2 p g w2 o => q v x H2 (i x p) g w2 o
theorem EvIT.imp {wi : TI} {P P' : List IV → Prop} (h : EvIT c t wi ρ P) (i : ∀ x, P x → P' x) : EvIT c t wi ρ P' := fun n H1 σ a w R r => h n H1 σ a w R fun J H2 its p g w2 ok => r J H2 its (i its p) g w2 ok
end
end TD
namespace TD
open PySem PySem.Spec PyProof.Rows L2 TP
theorem flat_sing (cs : List Nat) : (cs.map fun c => [c]).flatten = cs := by
  induction cs with
  | nil => rfl
  | cons c cs ih => rw [List.map_cons, List.flatten_cons, ih]; rfl
theorem paired_chars {α : Type} {l : W} {ys : List α} {zs : List D} (p : Paired (fun _ d => ∃ c, c ∈ l ∧ d = ds [c]) ys zs) : ∃ cs : W, zs = cs.map (fun c => ds [c]) ∧ cs.length = ys.length ∧ ∀ c ∈ cs, c ∈ l := by
  induction p with
  | nil => exact ⟨[], rfl, rfl, by simp⟩
  | cons h _ ih =>
    obtain ⟨c, hc, rfl⟩ := h
    obtain ⟨cs, rfl, e, m⟩ := ih
    exact ⟨c :: cs, rfl, by rw [List.length_cons, List.length_cons, e], fun d hd => by
      rcases List.mem_cons.mp hd with rfl | hd
      · exact hc
      · exact m d hd⟩
end TD
set_option Elab.async false
set_option linter.all false
set_option maxRecDepth 100000
set_option maxHeartbeats 400000
/-! Drawn schemes, plainly. -/
namespace TP
open PySem TD L2
/-- a table over the letters l with targets over g -/
structure Tbl (l g : W) (tb : Tb) : Prop where
  nodup : (tb.map (·.1)).Nodup
  keys : ∀ p ∈ tb, 1 ≤ p.1.length ∧ p.1.length ≤ 3 ∧ ∀ c ∈ p.1, c ∈ l
  vals : ∀ p ∈ tb, 1 ≤ p.2.length ∧ p.2.length ≤ 3 ∧ ∀ c ∈ p.2, c ∈ g
theorem put_keys (tb : Tb) (k v : W) : (put tb k v).map (·.1) = if k ∈ tb.map (·.1) then tb.map (·.1) else tb.map (·.1) ++ [k] := by
  unfold put
  have e : (tb.any fun p => decide (p.1 = k)) = decide (k ∈ tb.map (·.1)) := by
    rw [Bool.eq_iff_iff, List.any_eq_true, decide_eq_true_iff, List.mem_map]
    constructor
    · rintro ⟨p, hp, h⟩; exact ⟨p, hp, by simpa using h⟩
    · rintro ⟨p, hp, h⟩; exact ⟨p, hp, by simpa using h⟩
  rw [e]
  by_cases h : k ∈ tb.map (·.1)
  · rw [if_pos (by simpa using h), if_pos h, List.map_map]
    apply List.map_congr_left
    intro p _
    show (if p.1 = k then (p.1, v) else p).1 = p.1
    split <;> rfl
  · rw [if_neg (by simpa using h), if_neg h, List.map_append]; rfl
theorem put_length (tb : Tb) (k v : W) : (put tb k v).length ≤ tb.length + 1 := by
  have := congrArg List.length (put_keys tb k v)
  rw [List.length_map] at this
  split at this
  · rw [List.length_map] at this; omega
  · rw [List.length_append, List.length_map] at this; simp at this; omega
theorem Tbl.put {l g : W} {tb : Tb} {k v : W} (h : Tbl l g tb) (hk : 1 ≤ k.length ∧ k.length ≤ 3 ∧ ∀ c ∈ k, c ∈ l) (hv : 1 ≤ v.length ∧ v.length ≤ 3 ∧ ∀ c ∈ v, c ∈ g) : Tbl l g (TP.put tb k v) where
  nodup := by
    rw [put_keys]
    split
    · exact h.nodup
    · rename_i q
      rw [List.nodup_append]
      refine ⟨h.nodup, by simp, fun a ha b hb => ?_⟩
      simp at hb; subst hb; exact fun z => q (by rw [← z]; exact ha)
  keys := fun p hp => by
    rcases put_mem hp with h' | h'
    · exact h.keys p h'
    · rw [h'.2]; exact hk
  vals := fun p hp => by
    rcases put_mem hp with h' | h'
    · exact h.vals p h'
    · rw [h'.1]; exact hv
theorem put_has {tb : Tb} {k v a : W} (h : a ∈ tb.map (·.1)) : a ∈ (put tb k v).map (·.1) := by
  rw [put_keys]
  split
  · exact h
  · exact List.mem_append_left _ h
theorem put_new (tb : Tb) (k v : W) : k ∈ (put tb k v).map (·.1) := by
  rw [put_keys]
  split
  · assumption
  · exact List.mem_append_right _ (by simp)
theorem writeT_tbl {l g : W} {s : Sc} (h : ∀ p ∈ s, (1 ≤ p.1.length ∧ p.1.length ≤ 3 ∧ ∀ c ∈ p.1, c ∈ l) ∧ (1 ≤ p.2.length ∧ p.2.length ≤ 3 ∧ ∀ c ∈ p.2, c ∈ g)) : Tbl l g (writeT s) ∧ (writeT s).length ≤ s.length ∧ ∀ p ∈ s, p.1 ∈ (writeT s).map (·.1) := by
  unfold writeT
  have : ∀ (s : Sc) (t : Tb), (∀ p ∈ s, (1 ≤ p.1.length ∧ p.1.length ≤ 3 ∧ ∀ c ∈ p.1, c ∈ l) ∧ (1 ≤ p.2.length ∧ p.2.length ≤ 3 ∧ ∀ c ∈ p.2, c ∈ g)) → Tbl l g t → Tbl l g (s.foldl (fun t p => put t p.1 p.2) t) ∧ (s.foldl (fun t p => put t p.1 p.2) t).length ≤ t.length + s.length ∧
      (∀ a, a ∈ t.map (·.1) → a ∈ (s.foldl (fun t p => put t p.1 p.2) t).map (·.1)) ∧ ∀ p ∈ s, p.1 ∈ (s.foldl (fun t p => put t p.1 p.2) t).map (·.1) := by
    intro s
    induction s with
    | nil => intro t _ ht; exact ⟨ht, by simp, fun _ h => h, fun _ h => by simp at h⟩
    | cons p s ih =>
      intro t hs ht
      have hp := hs p List.mem_cons_self
      obtain ⟨i1, i2, i3, i4⟩ := ih (put t p.1 p.2) (fun q hq => hs q (List.mem_cons_of_mem _ hq)) (ht.put hp.1 hp.2)
      rw [List.foldl_cons]
      have := put_length t p.1 p.2
      refine ⟨i1, by rw [List.length_cons]; omega, fun a ha => i3 a (put_has ha), fun q hq => ?_⟩
      rcases List.mem_cons.mp hq with rfl | hq
      · exact i3 _ (put_new _ _ _)
      · exact i4 q hq
  obtain ⟨a, b, _, d⟩ := this s [] h ⟨.nil, fun _ h => by simp at h, fun _ h => by simp at h⟩
  exact ⟨a, by simpa using b, d⟩
/-- the scheme of a table -/
def ofT (tb : Tb) : Sc := (sortW (tb.map (·.1))).map fun w => (w, val tb w)
theorem ofT_src (tb : Tb) : (ofT tb).map (·.1) = sortW (tb.map (·.1)) := by
  unfold ofT; rw [List.map_map]
  exact List.map_id _
theorem asc_of {S : List W} (h : S.Pairwise (· ≤ ·)) (n : S.Nodup) : ascending S = true := by
  induction S with
  | nil => rfl
  | cons a S ih =>
    cases S with
    | nil => rfl
    | cons b S =>
      have h1 : a ≤ b := List.rel_of_pairwise_cons h List.mem_cons_self
      have h2 : a ≠ b := fun z => (List.nodup_cons.mp n).1 (by rw [z]; exact List.mem_cons_self)
      have h3 : a < b := by
        rcases Decidable.em (a < b) with q | q
        · exact q
        · exact absurd (List.le_antisymm h1 (List.not_lt.mp q)) h2
      show (decide (a < b) && ascending (b :: S)) = true
      rw [decide_eq_true h3, ih (List.Pairwise.of_cons h) (List.nodup_cons.mp n).2]; rfl
/-- a drawn scheme: over the letters l, with targets over g -/
structure Made (l g : W) (s : Sc) : Prop where
  ok : Scheme s
  lets : ∀ c, [c] ∈ s.map (·.1) ↔ c ∈ l
  src : ∀ p ∈ s, ∀ c ∈ p.1, c ∈ l
  tgt : ∀ p ∈ s, ∀ c ∈ p.2, c ∈ g
theorem ofT_made {l g : W} {tb : Tb} (h : Tbl l g tb) (hl : ∀ c ∈ l, c ∈ lowers) (hg : ∀ c ∈ g, c ∈ lowers) (h1 : 1 ≤ tb.length) (h10 : tb.length ≤ 10) (ha : ∀ c ∈ l, [c] ∈ tb.map (·.1)) : Made l g (ofT tb) := by
  have hlen : (ofT tb).length = tb.length := by
    unfold ofT; rw [List.length_map, (sortW_perm _).length_eq, List.length_map]
  have mem : ∀ w, w ∈ (ofT tb).map (·.1) ↔ w ∈ tb.map (·.1) := fun w => by rw [ofT_src]; exact (sortW_perm _).mem_iff
  have ent : ∀ p ∈ ofT tb, ∃ q ∈ tb, p.1 = q.1 ∧ ∃ q' ∈ tb, p.2 = q'.2 := fun p hp => by
    unfold ofT at hp
    obtain ⟨w, hw, rfl⟩ := List.mem_map.mp hp
    have hw' := (sortW_perm _).mem_iff.mp hw
    obtain ⟨q, hq, e⟩ := List.mem_map.mp hw'
    have gs := get_val (get_isSome.mpr hw')
    exact ⟨q, hq, e.symm, _, get_mem gs, rfl⟩
  have src : ∀ p ∈ ofT tb, 1 ≤ p.1.length ∧ p.1.length ≤ 3 ∧ ∀ c ∈ p.1, c ∈ l := fun p hp => by
    obtain ⟨q, hq, e, _⟩ := ent p hp
    rw [e]; exact h.keys q hq
  have tgt : ∀ p ∈ ofT tb, 1 ≤ p.2.length ∧ p.2.length ≤ 3 ∧ ∀ c ∈ p.2, c ∈ g := fun p hp => by
    obtain ⟨_, _, _, q, hq, e⟩ := ent p hp
    rw [e]; exact h.vals q hq
  have nd : (sortW (tb.map (·.1))).Nodup := (sortW_perm _).nodup_iff.mpr h.nodup
  refine ⟨⟨by omega, by omega, fun p hp => ⟨(src p hp).1, (src p hp).2.1⟩, fun p hp => ⟨(tgt p hp).1, (tgt p hp).2.1⟩, fun p hp => ?_, fun p hp => ?_, ?_, ?_⟩, fun c => ?_, fun p hp => (src p hp).2.2, fun p hp => (tgt p hp).2.2⟩
  · rw [List.all_eq_true]; intro c hc; exact decide_eq_true (hl c ((src p hp).2.2 c hc))
  · rw [List.all_eq_true]; intro c hc; exact decide_eq_true (hg c ((tgt p hp).2.2 c hc))
  · rw [ofT_src]; exact asc_of (sortW_sorted _) nd
  · unfold lettersIn
    rw [List.all_eq_true]
    intro w hw
    rw [List.all_eq_true]
    intro c hc
    obtain ⟨p, hp, rfl⟩ := List.mem_map.mp hw
    exact decide_eq_true ((mem _).mpr (ha c ((src p hp).2.2 c hc)))
  · rw [mem]
    constructor
    · intro hc
      obtain ⟨p, hp, e⟩ := List.mem_map.mp hc
      exact (h.keys p hp).2.2 c (by rw [e]; simp)
    · exact ha c
theorem paired_pairs {P : Nat → W → Prop} {l : W} {zs : List D} (p : Paired (fun c d => ∃ w, d = encP ([c], w) ∧ P c w) l zs) : ∃ kvs : Sc, zs = kvs.map encP ∧ kvs.map (·.1) = l.map (fun c => [c]) ∧ ∀ q ∈ kvs, ∃ c ∈ l, q.1 = [c] ∧ P c q.2 := by
  induction p with
  | nil => exact ⟨[], rfl, rfl, by simp⟩
  | @cons c d l zs h _ ih =>
    obtain ⟨w, rfl, hw⟩ := h
    obtain ⟨kvs, rfl, e, m⟩ := ih
    refine ⟨([c], w) :: kvs, rfl, by rw [List.map_cons, e]; rfl, fun q hq => ?_⟩
    rcases List.mem_cons.mp hq with rfl | hq
    · exact ⟨c, List.mem_cons_self, rfl, hw⟩
    · obtain ⟨c', h1, h2⟩ := m q hq
      exact ⟨c', List.mem_cons_of_mem _ h1, h2⟩
end TP
theorem TD.units1 {n : Nat} (h : n + 64 < PySem.cLine) : n + 1 < PySem.cLine := by omega
set_option Elab.async false
set_option linter.all false
set_option maxRecDepth 100000
set_option maxHeartbeats 400000
/-! Least and greatest. -/
namespace TD
open PySem PySem.Spec PyProof.Rows L2 TP
section
variable {X : Cx}
def rExQ (f : D → List D → D) : List V → Hp → VK → Prop := fun xs H Q => ∃ (H0 : Hp) (a : Addr) (vs : List V) (x : D) (ys : List D), xs = [.ref a] ∧ Same H0 H ∧ H a = some (.lst vs) ∧ DqAll H0 vs (x :: ys) ∧ PySem.W.AlikeAll (x :: ys) ∧ PyData.depthAll (x :: ys) ≤ 60 ∧ ∀ v, Dq H0 v (f x ys) → Q v H
theorem ex_fin {pins : List (Addr × Obj)} {σ : L2.St} {H : Hp} {s : Shared} {Q : VK} {H0 : Hp} {vs : List V} {its : List Value} {ds : List D} {m : D} {i : Nat} {u : Value} {h' : Heap} {tk : Nat} {bs : List Addr} (I : Inv X pins σ H s) (s0 : Same H0 H) (hd : DqAll H0 vs ds) (rv : Vals vs its) (e : its[i]? = some u)
    (r : Reads h' u m bs) (k : ∀ b o, s.heap.get? b = some o → h'.get? b = some o) (q : ∀ v, Dq H0 v m → Q v H) : EP X pins σ Q u { s with heap := h', toks := tk } := by
  obtain ⟨v, d, ev, hv, rv', hm⟩ : ∃ v d, vs[i]? = some v ∧ Dq H0 v d ∧ RelV v u ∧ d ∈ ds := by
    have hi : i < vs.length := by rw [rv.length]; exact (List.getElem?_eq_some_iff.mp e).1
    obtain ⟨w, ew, rw'⟩ := rv.get (List.getElem?_eq_getElem hi)
    rw [e] at ew
    cases ew
    obtain ⟨d, e1, e2⟩ := dqAll_get hd (List.getElem?_eq_getElem hi)
    exact ⟨_, d, List.getElem?_eq_getElem hi, e2, rw', List.mem_of_getElem? e1⟩
  obtain ⟨as, r1⟩ := rd_q I (dq_mono s0 _ _ hv) rv'
  have r2 := PySem.W.reads_keeps k r1
  have e1 := PySem.SeqAt.plain_unique d m u _ _ (dq_plain _ _ hv) r2 r
  subst e1
  exact ⟨v, H, I.kept (t' := tk) k, rv', q v hv⟩
theorem call_minQ (hc : X.calm = true) (hu : X.A.units + 64 < cLine) : CallR X (.builtin "min") (rExQ PySem.W.minD) := by
  intro pins s σ H xs us Q I r h
  obtain ⟨H0, a, vs, x, ys, rfl, s0, ha, hd, hal, hz, q⟩ := h
  obtain ⟨u, rfl, rx⟩ := vals1 r
  cases rx
  obtain ⟨its, rv, pl, hlen⟩ := I.list (.inl (.inl ha))
  obtain ⟨as, ra⟩ := rdAll_q I (dqAll_mono s0 _ _ hd) rv
  exact PySem.W.min_list_data (I.ok.hd hc) pl.isList ra hal (by omega) fun i v h' tk bs e r k => ex_fin I s0 hd rv (by simpa using e) r k q
theorem call_maxQ (hc : X.calm = true) (hu : X.A.units + 64 < cLine) : CallR X (.builtin "max") (rExQ PySem.W.maxD) := by
  intro pins s σ H xs us Q I r h
  obtain ⟨H0, a, vs, x, ys, rfl, s0, ha, hd, hal, hz, q⟩ := h
  obtain ⟨u, rfl, rx⟩ := vals1 r
  cases rx
  obtain ⟨its, rv, pl, hlen⟩ := I.list (.inl (.inl ha))
  obtain ⟨as, ra⟩ := rdAll_q I (dqAll_mono s0 _ _ hd) rv
  exact PySem.W.max_list_data (I.ok.hd hc) pl.isList ra hal (by omega) fun i v h' tk bs e r k => ex_fin I s0 hd rv (by simpa using e) r k q
end
section
variable {c : Cz}
/-- a choice among the given -/
def Picks (f : D → List D → D) : Prop := ∀ x ys, f x ys ∈ x :: ys
theorem fold_pick (b : D → D → Bool) (x : D) (ys : List D) : (ys.foldl (fun a y => if b y a = true then y else a) x) ∈ x :: ys := by
  induction ys generalizing x with
  | nil => exact List.mem_cons_self
  | cons y ys ih =>
    rw [List.foldl_cons]
    split
    · exact List.mem_cons_of_mem _ (ih y)
    · rcases List.mem_cons.mp (ih x) with h | h
      · rw [h]; exact List.mem_cons_self
      · exact List.mem_cons_of_mem _ (List.mem_cons_of_mem _ h)
theorem rc_ex {f : D → List D → D} {x : D} {ys : List D} (hal : PySem.W.AlikeAll (x :: ys)) (hz : PyData.depthAll (x :: ys) ≤ 60) : RCX c (rExQ f) [.d (.list (x :: ys))] (.d (f x ys)) := fun H1 g lv vs ha Q q => by
  obtain ⟨v, rfl, o⟩ := args1 ha
  obtain ⟨a, ws, rfl, h1, h2⟩ := dq_list o
  exact ⟨hid c.M H1, a, ws, x, ys, rfl, hid_le, (hid_some h1).2, h2, hal, hz, fun v hv => q v H1 (Same.refl _) hv⟩
theorem alike_ws (l : List W) : PySem.W.AlikeAll (l.map ds) := by
  refine ⟨fun x hx y hy => ?_, fun x hx => ?_⟩
  · obtain ⟨_, _, rfl⟩ := List.mem_map.mp hx
    obtain ⟨_, _, rfl⟩ := List.mem_map.mp hy
    rfl
  · obtain ⟨_, _, rfl⟩ := List.mem_map.mp hx
    intro z; cases z
theorem depth_ws (l : List W) : PyData.depthAll (l.map ds) = 0 := by
  induction l with
  | nil => rfl
  | cons a l ih => show max 0 (PyData.depthAll (l.map ds)) = 0; rw [ih]; rfl
def minW (x : W) (ys : List W) : W := ys.foldl (fun a y => if y < a then y else a) x
theorem minD_ws (x : W) (ys : List W) : PySem.W.minD (ds x) (ys.map ds) = ds (minW x ys) := by
  unfold PySem.W.minD minW
  induction ys generalizing x with
  | nil => rfl
  | cons y ys ih =>
    rw [List.map_cons, List.foldl_cons, List.foldl_cons, PySem.W.dataLt_str]
    have e : (decide (tl (sw y) < tl (sw x)) = true) ↔ y < x := by rw [tl_sw, tl_sw]; simp
    by_cases h : y < x
    · rw [if_pos (e.mpr h), if_pos h]; exact ih y
    · rw [if_neg (fun z => h (e.mp z)), if_neg h]; exact ih x
theorem rc_minW {x : W} {ys : List W} : RCX c (rExQ PySem.W.minD) [.d (encW (x :: ys))] (.d (ds (minW x ys))) := by
  have := rc_ex (c := c) (f := PySem.W.minD) (x := ds x) (ys := ys.map ds) (alike_ws (x :: ys)) (by have := depth_ws (x :: ys); rw [List.map_cons] at this; omega)
  rw [minD_ws] at this; exact this
/-- the first of ascending words is the least -/
theorem minW_asc {x : W} {ys : List W} (h : (x :: ys).Pairwise (· < ·)) : minW x ys = x := by
  unfold minW
  have : ∀ ys : List W, (∀ y ∈ ys, x < y) → ys.foldl (fun a y => if y < a then y else a) x = x := by
    intro ys
    induction ys with
    | nil => intro _; rfl
    | cons y ys ih =>
      intro hy
      rw [List.foldl_cons, if_neg (fun z => List.lt_irrefl _ (List.lt_trans z (hy y List.mem_cons_self)))]
      exact ih fun z hz => hy z (List.mem_cons_of_mem _ hz)
  exact this ys fun y hy => List.rel_of_pairwise_cons h hy
/-- (length, word) -/
abbrev encL (p : Nat × W) : D := .tuple [.int p.1, ds p.2]
def ltL (a b : Nat × W) : Bool := decide (a.1 < b.1) || (decide (a.1 = b.1) && decide (a.2 < b.2))
end
end TD
set_option Elab.async false
set_option linter.all false
set_option maxRecDepth 100000
set_option maxHeartbeats 400000
/-! Reading, plainly. -/
namespace TD
open PySem PySem.Spec PyProof.Rows L2 TP
theorem dataLt_L (a b : Nat × W) : PySem.W.dataLt (encL a) (encL b) = ltL a b := by
  rw [PySem.W.dataLt_pair rfl rfl, PySem.W.dataLt_int, PySem.W.dataLt_str]
  have e1 : PyData.eqv (.int (a.1 : Int)) (.int (b.1 : Int)) = decide (a.1 = b.1) := by
    rw [Bool.eq_iff_iff]; simp [PyData.eqv]; omega
  have e2 := eqv_ds a.2 b.2
  rw [e1, e2]
  unfold ltL
  have e3 : (tl (sw a.2) < tl (sw b.2)) ↔ a.2 < b.2 := by rw [tl_sw, tl_sw]
  have e4 : decide (tl (sw a.2) < tl (sw b.2)) = decide (a.2 < b.2) := decide_eq_decide.mpr e3
  show (if decide (a.1 = b.1) = true then (if decide (a.2 = b.2) = true then false else decide (tl (sw a.2) < tl (sw b.2))) else decide ((a.1 : Int) < (b.1 : Int))) = _
  rw [e4]
  by_cases h : a.1 = b.1
  · by_cases h2 : a.2 = b.2
    · have : ¬ (a.2 < b.2) := by rw [h2]; exact List.lt_irrefl _
      simp [h, h2, List.lt_irrefl]
    · simp [h, h2]
  · simp [h]
def maxL (x : Nat × W) (ys : List (Nat × W)) : Nat × W := ys.foldl (fun a y => if ltL a y = true then y else a) x
theorem maxD_L (x : Nat × W) (ys : List (Nat × W)) : PySem.W.maxD (encL x) (ys.map encL) = encL (maxL x ys) := by
  unfold PySem.W.maxD maxL
  induction ys generalizing x with
  | nil => rfl
  | cons y ys ih =>
    rw [List.map_cons, List.foldl_cons, List.foldl_cons, dataLt_L]
    by_cases h : ltL x y = true
    · rw [if_pos h, if_pos h]; exact ih y
    · rw [if_neg h, if_neg h]; exact ih x
theorem maxL_spec (x : Nat × W) (ys : List (Nat × W)) : maxL x ys ∈ x :: ys ∧ ∀ y ∈ x :: ys, y.1 ≤ (maxL x ys).1 := by
  unfold maxL
  induction ys generalizing x with
  | nil => exact ⟨List.mem_cons_self, fun y hy => by simp at hy; rw [hy]; exact Nat.le_refl _⟩
  | cons y ys ih =>
    rw [List.foldl_cons]
    by_cases h : ltL x y = true
    · rw [if_pos h]
      obtain ⟨i1, i2⟩ := ih y
      refine ⟨List.mem_cons_of_mem _ i1, fun z hz => ?_⟩
      have hxy : x.1 ≤ y.1 := by
        unfold ltL at h
        simp only [Bool.or_eq_true, Bool.and_eq_true, decide_eq_true_eq] at h
        omega
      rcases List.mem_cons.mp hz with rfl | hz
      · exact Nat.le_trans hxy (i2 y List.mem_cons_self)
      · exact i2 z hz
    · rw [if_neg h]
      obtain ⟨i1, i2⟩ := ih x
      refine ⟨?_, fun z hz => ?_⟩
      · rcases List.mem_cons.mp i1 with e | e
        · rw [e]; exact List.mem_cons_self
        · exact List.mem_cons_of_mem _ (List.mem_cons_of_mem _ e)
      · have hxy : y.1 ≤ x.1 := by
          unfold ltL at h
          simp only [Bool.or_eq_true, Bool.and_eq_true, decide_eq_true_eq, not_or] at h
          omega
        rcases List.mem_cons.mp hz with rfl | hz
        · exact i2 z List.mem_cons_self
        · rcases List.mem_cons.mp hz with rfl | hz
          · exact Nat.le_trans hxy (i2 x List.mem_cons_self)
          · exact i2 z (List.mem_cons_of_mem _ hz)
theorem alike_L (l : List (Nat × W)) : PySem.W.AlikeAll (l.map encL) := by
  refine ⟨fun x hx y hy => ?_, fun x hx => ?_⟩
  · obtain ⟨_, _, rfl⟩ := List.mem_map.mp hx
    obtain ⟨_, _, rfl⟩ := List.mem_map.mp hy
    rfl
  · obtain ⟨_, _, rfl⟩ := List.mem_map.mp hx
    intro z; cases z
theorem depth_L (l : List (Nat × W)) : PyData.depthAll (l.map encL) ≤ 1 := by
  induction l with
  | nil => decide
  | cons a l ih =>
    show max (encL a).depth (PyData.depthAll (l.map encL)) ≤ 1
    have : (encL a).depth ≤ 1 := by simp [encL, PyData.depth, PyData.depthAll]
    omega
theorem rc_maxL {c : Cz} {x : Nat × W} {ys : List (Nat × W)} : RCX c (rExQ PySem.W.maxD) [.d (.list ((x :: ys).map encL))] (.d (encL (maxL x ys))) := by
  have := rc_ex (c := c) (f := PySem.W.maxD) (x := encL x) (ys := ys.map encL) (alike_L (x :: ys)) (by have := depth_L (x :: ys); rw [List.map_cons] at this; omega)
  rw [maxD_L] at this; exact this
end TD
namespace TP
open PySem TD L2
theorem longestN_top {t : Tb} {x : W} : ∀ {n : Nat}, n ≤ x.length → (∀ k, longestN t x n = some k → ∀ m, k.length < m → m ≤ n → get t (x.take m) = none) ∧ (longestN t x n = none → ∀ m, 1 ≤ m → m ≤ n → get t (x.take m) = none)
  | 0, _ => ⟨fun k h => by (cases h), fun _ m h1 h2 => by omega⟩
  | n + 1, hn => by
    obtain ⟨i1, i2⟩ := longestN_top (t := t) (x := x) (n := n) (by omega)
    unfold longestN
    split
    · rename_i g
      refine ⟨fun k h m hm hm2 => ?_, fun h => by cases h⟩
      cases h
      rw [List.length_take] at hm
      omega
    · rename_i g
      have g' : get t (x.take (n + 1)) = none := by
        cases e : get t (x.take (n + 1)) with
        | none => rfl
        | some v => rw [e] at g; exact absurd rfl g
      refine ⟨fun k h m hm hm2 => ?_, fun h m hm hm2 => ?_⟩
      · by_cases e : m = n + 1
        · rw [e]; exact g'
        · exact i1 k h m hm (by omega)
      · by_cases e : m = n + 1
        · rw [e]; exact g'
        · exact i2 h m hm (by omega)
/-- longest, by what it is -/
theorem longest_eq {t : Tb} {x k : W} (h1 : 1 ≤ k.length) (h3 : k.length ≤ 3) (hp : ∃ r, x = k ++ r) (hk : (get t k).isSome = true) (hmax : ∀ m, k.length < m → m ≤ 3 → m ≤ x.length → get t (x.take m) = none) : longest t x = some k := by
  obtain ⟨r, rfl⟩ := hp
  have hl : k.length ≤ (k ++ r).length := by rw [List.length_append]; omega
  have ht : (k ++ r).take k.length = k := by simp
  cases e : longest t (k ++ r) with
  | none =>
    have := (longestN_top (t := t) (x := k ++ r) (n := min 3 (k ++ r).length) (Nat.min_le_right _ _)).2 e k.length h1 (by omega)
    rw [ht] at this; rw [this] at hk; cases hk
  | some k' =>
    have l := longest_len e
    by_cases q : k'.length = k.length
    · have e1 := l.2.2.2.1
      rw [q, ht] at e1; rw [e1]
    · by_cases q2 : k'.length < k.length
      · have := (longestN_top (t := t) (x := k ++ r) (n := min 3 (k ++ r).length) (Nat.min_le_right _ _)).1 k' e k.length q2 (by omega)
        rw [ht] at this; rw [this] at hk; cases hk
      · have := hmax k'.length (by omega) l.2.2.1 l.2.1
        rw [← l.2.2.2.1] at this
        rw [this] at l; cases l.2.2.2.2
theorem longest_none {t : Tb} {x : W} (h : ∀ m, 1 ≤ m → m ≤ 3 → m ≤ x.length → get t (x.take m) = none) : longest t x = none := by
  cases e : longest t x with
  | none => rfl
  | some k =>
    have l := longest_len e
    have := h k.length l.1 l.2.2.1 l.2.1
    rw [← l.2.2.2.1] at this
    rw [this] at l; cases l.2.2.2.2
theorem get_app (t : Tb) (k v a : W) : get (t ++ [(k, v)]) a = (get t a).or (if k = a then some v else none) := by
  unfold get
  rw [List.find?_append]
  cases t.find? (fun p => decide (p.1 = a)) with
  | none =>
    rw [Option.none_or]
    by_cases h : k = a
    · simp [h]
    · simp [h]
  | some p => rfl
theorem get_setd (t : Tb) (k v a : W) : get (setd t k v) a = (get t a).or (if k = a then some v else none) := by
  unfold setd
  split
  · rename_i h
    by_cases e : k = a
    · subst e
      cases q : get t k with
      | none => rw [q] at h; cases h
      | some v => rfl
    · rw [if_neg e, Option.or_none]
  · exact get_app t k v a
theorem get_readT (s : Sc) (k : W) : get (readT s) k = (s.find? fun p => decide (p.2 = k)).map (·.1) := by
  unfold readT
  have : ∀ (s : Sc) (t : Tb), get (s.foldl (fun t p => setd t p.2 p.1) t) k = (get t k).or ((s.find? fun p => decide (p.2 = k)).map (·.1)) := by
    intro s
    induction s with
    | nil => intro t; simp
    | cons p s ih =>
      intro t
      rw [List.foldl_cons, ih, get_setd, Option.or_assoc, List.find?_cons]
      congr 1
      by_cases h : p.2 = k
      · simp [h]
      · simp [h]
  have h := this s []
  rw [h]
  have : get [] k = none := rfl
  rw [this, Option.none_or]
theorem readT_isSome {s : Sc} {k : W} : (get (readT s) k).isSome = true ↔ ∃ p ∈ s, p.2 = k := by
  rw [get_readT, Option.isSome_map, List.find?_isSome]
  constructor
  · rintro ⟨p, hp, e⟩; exact ⟨p, hp, by simpa using e⟩
  · rintro ⟨p, hp, e⟩; exact ⟨p, hp, by simpa using e⟩
theorem mapped_nil {t : Tb} : mapped t [] = some [] := by unfold mapped; rw [split_nil]; rfl
theorem mapped_none {t : Tb} {x : W} (hx : x ≠ []) (e : longest t x = none) : mapped t x = none := by unfold mapped; rw [split_none hx e]; rfl
theorem mapped_some {t : Tb} {x k : W} (hx : x ≠ []) (e : longest t x = some k) : mapped t x = (mapped t (x.drop k.length)).map (val t k ++ ·) := by
  unfold mapped; rw [split_some hx e, Option.map_map, Option.map_map]
  congr 1
/-- what fits at the head of a text -/
def fit (s : Sc) (x : W) : List (Nat × W) := (s.filter fun p => starts x p.2).map fun p => (p.2.length, p.1)
theorem fit_nil {s : Sc} {x : W} (hs : Scheme s) (h : fit s x = []) : longest (readT s) x = none := by
  refine longest_none fun m h1 h3 hm => ?_
  cases e : get (readT s) (x.take m) with
  | none => rfl
  | some v =>
    obtain ⟨p, hp, e2⟩ := readT_isSome.mp (show (get (readT s) (x.take m)).isSome = true by rw [e]; rfl)
    unfold fit at h
    rw [List.map_eq_nil_iff, List.filter_eq_nil_iff] at h
    exact absurd (starts_iff.mpr ⟨x.drop m, by rw [e2]; exact (List.take_append_drop _ _).symm⟩) (h p hp)
/-- the greatest fit is the longest key; the least of its sources is its value -/
theorem fit_max {s : Sc} {x : W} {q : Nat × W} {r : List (Nat × W)} (hs : Scheme s) (h : fit s x = q :: r) : ∃ k, longest (readT s) x = some k ∧ k.length = (maxL q r).1 ∧ ∃ a b, ((fit s x).filter fun z => decide (z.1 = (maxL q r).1)).map (·.2) = a :: b ∧ minW a b = val (readT s) k := by
  obtain ⟨m1, m2⟩ := maxL_spec q r
  generalize hM : maxL q r = M at m1 m2
  rw [← h] at m1 m2
  obtain ⟨p, hp, e⟩ := List.mem_map.mp (show M ∈ (s.filter fun p => starts x p.2).map fun p => (p.2.length, p.1) from m1)
  rw [List.mem_filter] at hp
  obtain ⟨r', er⟩ := starts_iff.mp hp.2
  have hlen : p.2.length = M.1 := by rw [← e]
  have key : ∀ z ∈ s, (starts x z.2 = true ∧ z.2.length = M.1) ↔ z.2 = p.2 := fun z hz => by
    constructor
    · rintro ⟨h1, h2⟩
      obtain ⟨r2, e2⟩ := starts_iff.mp h1
      have a1 : x.take M.1 = z.2 := by rw [e2, ← h2]; simp
      have a2 : x.take M.1 = p.2 := by rw [er, ← hlen]; simp
      rw [← a1, a2]
    · intro h1; rw [h1]; exact ⟨hp.2, hlen⟩
  have hl : longest (readT s) x = some p.2 := by
    refine longest_eq (hs.tgt1 p hp.1).1 (hs.tgt1 p hp.1).2 ⟨r', er⟩ (readT_isSome.mpr ⟨p, hp.1, rfl⟩) fun m h1 h3 hm => ?_
    cases e3 : get (readT s) (x.take m) with
    | none => rfl
    | some v =>
      obtain ⟨z, hz, e4⟩ := readT_isSome.mp (show (get (readT s) (x.take m)).isSome = true by rw [e3]; rfl)
      have hz1 : starts x z.2 = true := starts_iff.mpr ⟨x.drop m, by rw [e4]; exact (List.take_append_drop _ _).symm⟩
      have := m2 (z.2.length, z.1) (List.mem_map.mpr ⟨z, List.mem_filter.mpr ⟨hz, hz1⟩, rfl⟩)
      have hzl : z.2.length = m := by rw [e4, List.length_take]; omega
      simp only at this
      omega
  refine ⟨p.2, hl, hlen, ?_⟩
  have e5 : ((fit s x).filter fun z => decide (z.1 = M.1)).map (·.2) = (s.filter fun z => decide (z.2 = p.2)).map (·.1) := by
    unfold fit
    rw [List.filter_map, List.map_map, List.filter_filter]
    have : (s.filter fun a => ((fun z : Nat × W => decide (z.1 = M.1)) ∘ fun p : W × W => (p.2.length, p.1)) a && starts x a.2) = s.filter fun z => decide (z.2 = p.2) := by
      apply List.filter_congr
      intro z hz
      rw [Bool.eq_iff_iff]
      simp only [Bool.and_eq_true, Function.comp_def, decide_eq_true_eq]
      rw [← key z hz]
      exact And.comm
    rw [this]; rfl
  rw [e5]
  cases e6 : s.filter fun z => decide (z.2 = p.2) with
  | nil =>
    rw [List.filter_eq_nil_iff] at e6
    exact absurd (by simp) (e6 p hp.1)
  | cons a b =>
    refine ⟨a.1, b.map (·.1), rfl, ?_⟩
    have hpw : (((s.filter fun z => decide (z.2 = p.2)).map (·.1))).Pairwise (· < ·) := by
      have := asc_lt hs.asc
      exact this.sublist (List.filter_sublist.map _)
    rw [e6] at hpw
    rw [minW_asc hpw]
    unfold val
    rw [get_readT]
    have : s.find? (fun z => decide (z.2 = p.2)) = some a := by
      rw [← List.head?_filter, e6]; rfl
    rw [this]; rfl
/-! the law's own cuts -/
def headS (S : List W) (x : W) : Option W := (([3, 2, 1].filter fun n => decide (x.take n ∈ S)).map fun n => x.take n).head?
theorem headS_eq {s : Sc} {x : W} (hx : x ≠ []) : headS (s.map (·.1)) x = longest s x := by
  have g : ∀ k, (get s k).isSome = decide (k ∈ s.map (·.1)) := fun k => by
    rw [Bool.eq_iff_iff, get_isSome, decide_eq_true_iff]
  unfold headS longest
  match x, hx with
  | [a], _ =>
    simp only [List.take, List.length_cons, List.length_nil]
    have : min 3 (0 + 1) = 1 := rfl
    rw [this]
    simp only [longestN, List.take, g]
    by_cases h : [a] ∈ s.map (·.1)
    · simp [h, List.filter]
    · simp [h, List.filter]
  | [a, b], _ =>
    simp only [List.take, List.length_cons, List.length_nil]
    have : min 3 (0 + 1 + 1) = 2 := rfl
    rw [this]
    simp only [longestN, List.take, g]
    by_cases h : [a, b] ∈ s.map (·.1)
    · simp [h, List.filter]
    · by_cases h2 : [a] ∈ s.map (·.1)
      · simp [h, h2, List.filter]
      · simp [h, h2, List.filter]
  | a :: b :: c :: r, _ =>
    simp only [List.take, List.length_cons]
    have : min 3 (r.length + 1 + 1 + 1) = 3 := by omega
    rw [this]
    simp only [longestN, List.take, g]
    by_cases h : [a, b, c] ∈ s.map (·.1)
    · simp [h, List.filter]
    · by_cases h2 : [a, b] ∈ s.map (·.1)
      · simp [h, h2, List.filter]
      · by_cases h3 : [a] ∈ s.map (·.1)
        · simp [h, h2, h3, List.filter]
        · simp [h, h2, h3, List.filter]
end TP
set_option Elab.async false
set_option linter.all false
set_option maxRecDepth 100000
set_option maxHeartbeats 400000
/-! Calls that may raise within a try. -/
namespace TD
open PySem PySem.Spec PyProof.Rows L2 TP
section
variable {X : Cx} {k : Nat} {x : Str} {ps : List Str} {sp : Sp} {W : WX} {p pos : Pos} {e : Expr} {es : List Expr} {t : TA}
theorem pe_callFS (F : FnIs X.prog X.w X.K X.mg X.base (L2N.CX X.prog X.w) k x ps sp) (hr : Room k X.A) (tk : L2N.Takes X W) (ha : PA X (e :: es) t) (hg : Gl X x := by rfl) (hdb : (x == ("__debug__" : Str)) = false := by decide)
    (he : starEach (e :: es) X.env = (false, eval e X.env) :: starEach es X.env := by rfl) (hpl : (backTo pos (starEach es X.env)).any (·.1) = false := by rfl) :
    PE X (.Call (.Name x p) (e :: es) [] pos) (tCallS sp (WE W) t) := by
  obtain ⟨f, fd, G, hm, hk, hb⟩ := F
  exact pe_callS G hr hg hm hk hb (fun σ => L2N.passAt tk σ) ha hdb he hpl
end
section
variable {c : Cz} {ρ : List DV} {ta : TA} {W : WX} {ok : List DV → DV → Prop} {bad : List DV → Value → Prop}
/-- a call in a try that gives -/
theorem ev_callS {xs : List DV} {x : DV} (ha : EvA c ta ρ xs) (h : ok xs x) : EvX c (tCallS (spX c.K ok bad) (WE W) ta) ρ x := fun H1 σ a Q q => ha H1 σ a _ fun vs H2 s2 o2 =>
  ⟨c.M, xs, (a.same s2).lv, o2, .inl ⟨x, h, fun v H3 s3 o3 => q v H3 (s2.trans s3) o3⟩⟩
/-- a call in a try that raises -/
theorem bad_callS {K : PySem.W.Frag} {M : List Addr} {H : Hp} {σ : L2.St} {xs : List DV} {C : Value} {Q : VK} (s : Sta K M H σ ρ) (ha : EvA (cz K M H) ta ρ xs) (h : bad xs C) (q : ∀ H', Same H H' → Sta K M H' σ ρ → W C none σ H') : tCallS (spX K ok bad) (WE W) ta σ H Q :=
  ha H σ s.at _ fun vs H2 s2 o2 => ⟨M, xs, (s.same s2).lv, o2, .inr ⟨C, h, fun H3 s3 => q H3 (s2.trans s3) ((s.same s2).same s3)⟩⟩
/-- the one handler takes it -/
theorem only_yes {K : PySem.W.Frag} {C cls : Value} {ts : Addr → Value → Option Addr → TS} {Wo : WX} {D : Ends} {d : Option Addr} {σ : L2.St} {H : Hp} (e : PySem.W.exmOne K cls C = some true) (h : ∀ a, H a = none → ts a cls d D σ H) : wMany K Wo D [(C, ts)] cls d σ H := ⟨true, e, fun _ => h, fun z => by cases z⟩
theorem only_no {K : PySem.W.Frag} {C cls : Value} {ts : Addr → Value → Option Addr → TS} {Wo : WX} {D : Ends} {d : Option Addr} {σ : L2.St} {H : Hp} (e : PySem.W.exmOne K cls C = some false) (h : Wo cls d σ H) : wMany K Wo D [(C, ts)] cls d σ H := ⟨false, e, fun z => by (cases z), fun _ => h⟩
/-- the named handler takes it -/
theorem as_yes {K : PySem.W.Frag} {C cls : Value} {i : Nat} {ts : Addr → Value → Option Addr → TS} {Wo : WX} {D : Ends} {d : Option Addr} {σ : L2.St} {H : Hp} (e : PySem.W.exmOne K cls C = some true)
    (h : ∀ a, H a = none → ts a cls d { nx := fun σ' H' => D.nx (σ'.set i none) H', rt := D.rt, bk := fun σ' H' => D.bk (σ'.set i none) H', ct := fun σ' H' => D.ct (σ'.set i none) H' } (σ.set i (some (.ref a))) H) : wAs K C i ts Wo D cls d σ H := ⟨true, e, fun _ => h, fun z => by cases z⟩
end
section
variable {K : PySem.W.Frag} {M : List Addr} {H : Hp} {σ : L2.St} {ρ : List DV} {D : Ends} {te : TE} {tz : TS} {i j : Nat} {x : DV}
/-- a, b = e, [] : b is a new list, hidden -/
theorem q_parL (s : Sta K M H σ ρ) (h : EvX (cz K M H) te ρ x) (k : ∀ p σ' H', H p = none → p ∉ M → Same (hid M H) (hid (p :: M) H') → Same H H' → Sta K (p :: M) H' σ' ((ρ.set i x).set j (.v (.ref p))) → ML (p :: M) H' p [] → tz D σ' H') : tSeq (tPar i j (tCons te (tCons (tLst tNil) tNil))) tz D σ H :=
  h H σ s.at _ fun v H2 s2 o2 => by
    refine ⟨Nat.zero_le _, fun p hp => ⟨_, _, rfl, ?_⟩⟩
    have st := s.same s2
    have nm : p ∉ M := st.lv.new hp
    have sn := same_new hp (HO.lst [])
    have st3 := st.push (o := .lst []) hp
    exact k p _ _ (by cases e : H p with | none => rfl | some o => rw [s2 _ _ e] at hp; cases hp) nm ((Same.hid s2).trans (hid_new hp sn)) (s2.trans sn) ((st3.set (o2.mono (hid_new hp sn))).set (x := .v (.ref p)) rfl) ⟨List.mem_cons_self, [], upd_same, .nil⟩
/-- a, b = e, [] by way of a tuple: b is a new list, hidden -/
theorem q_tupL (s : Sta K M H σ ρ) (h : EvX (cz K M H) te ρ x) (k : ∀ p σ' H', H p = none → p ∉ M → Same (hid M H) (hid (p :: M) H') → Same H H' → Sta K (p :: M) H' σ' ((ρ.set i x).set j (.v (.ref p))) → ML (p :: M) H' p [] → tz D σ' H') :
    tSeq (tAsg (tTupF (tCons te (tCons (tLst tNil) tNil))) (gTup K 2 (gCons (gName i) (gCons (gName j) gNil)))) tz D σ H :=
  h H σ s.at _ fun v H2 s2 o2 => by
    refine ⟨Nat.zero_le _, fun p hp => ⟨by show 2 ≤ _; decide, fun q o hq ho => ?_⟩⟩
    have st := s.same s2
    have nm : p ∉ M := st.lv.new hp
    have sn := same_new hp (HO.lst [])
    have st3 := st.push (o := .lst []) hp
    have sq := same_new hq (.frz o (.tup [v, .ref p]))
    have st4 := st3.same sq
    have hqp : q ≠ p := fun z => by rw [z, upd_same] at hq; cases hq
    refine ⟨q, [v, .ref p], rfl, .inl (.inr ⟨o, upd_same⟩), rfl, v, [.ref p], rfl, .ref p, [], rfl, rfl, ?_⟩
    exact k p _ _ (by cases e : H p with | none => rfl | some o => rw [s2 _ _ e] at hp; cases hp) nm ((Same.hid s2).trans ((hid_new hp sn).trans (Same.hid sq))) (s2.trans (sn.trans sq)) ((st4.set ((o2.mono (hid_new hp sn)).mono (Same.hid sq))).set (x := .v (.ref p)) rfl) ⟨List.mem_cons_self, [], by rw [upd_ne hqp.symm]; exact upd_same, .nil⟩
theorem atI_zero {α : Type} (l : List α) : atI l 0 = l.head? := by
  cases l with
  | nil => rfl
  | cons a l => exact atI_nat (j := 0) rfl
end
end TD
namespace TP
open PySem TD L2
def lettersW (s : Sc) : W := (letters s).flatten
theorem letters_one {s : Sc} {w : W} (h : w ∈ letters s) : ∃ c, w = [c] := by
  have := (letters_mem.mp h).2
  exact List.length_eq_one_iff.mp this
theorem lettersW_map (s : Sc) : (lettersW s).map (fun c => [c]) = letters s := by
  unfold lettersW
  have : ∀ l : List W, (∀ w ∈ l, ∃ c, w = [c]) → l.flatten.map (fun c => [c]) = l := by
    intro l
    induction l with
    | nil => intro _; rfl
    | cons a l ih =>
      intro h
      obtain ⟨c, rfl⟩ := h a List.mem_cons_self
      rw [List.flatten_cons, List.map_append, ih fun w hw => h w (List.mem_cons_of_mem _ hw)]; rfl
  exact this _ fun w hw => letters_one hw
theorem lettersW_mem {s : Sc} {c : Nat} : c ∈ lettersW s ↔ [c] ∈ s.map (·.1) := by
  have e := lettersW_map s
  constructor
  · intro h
    have : [c] ∈ letters s := by rw [← e]; exact List.mem_map_of_mem h
    exact (letters_mem.mp this).1
  · intro h
    have : [c] ∈ letters s := letters_mem.mpr ⟨h, rfl⟩
    rw [← e] at this
    obtain ⟨d, hd, ed⟩ := List.mem_map.mp this
    cases ed; exact hd
theorem lettersW_len {s : Sc} : (lettersW s).length ≤ s.length := by
  have := congrArg List.length (lettersW_map s)
  rw [List.length_map] at this
  rw [this]
  unfold letters
  rw [List.length_map]
  exact List.length_filter_le _ _
/-- the segments -/
def segs (s : Sc) (x : W) : List W := (split (writeT s) x).getD []
theorem Made.letters {l g : W} {s : Sc} (h : Made l g s) (c : Nat) : c ∈ lettersW s ↔ c ∈ l := by rw [lettersW_mem]; exact h.lets c
end TP
namespace TP
open PySem TD L2
def anyL : List W := [[97], [97, 98], [97, 98, 99]]
def anyG : List W := [[112], [112, 113], [112, 113, 114], [97, 98, 99]]
/-- a scheme as _law_any gives -/
def Any (s : Sc) : Prop := ∃ l g, Made l g s ∧ l ∈ anyL ∧ g ∈ anyG ∧ s.length ≤ 6
theorem anyL_ok : ∀ l ∈ anyL, l ≠ [] ∧ (∀ c ∈ l, c ∈ lowers) ∧ l.length ≤ 3 := by decide
theorem anyG_ok : ∀ l ∈ anyG, l ≠ [] ∧ (∀ c ∈ l, c ∈ lowers) ∧ l.length ≤ 3 := by decide
end TP
set_option Elab.async false
set_option linter.all false
set_option maxRecDepth 100000
set_option maxHeartbeats 400000
/-! The law itself. -/
namespace TD
open PySem PySem.Spec PyProof.Rows L2 TP
open LamX NdefX in
/-- the town at p, beside the tables T of code objects -/
def twN (p : Addr) (T : List NTab) : Tw where
  a := p
  L := p :: T.map (·.1)
  At := fun H => (∃ x r : Int, 0 ≤ x ∧ 0 ≤ r ∧ H p = some (.lst [.int x, .int r])) ∧ TabsN T H
  live := fun H h b hb e => by
    obtain ⟨⟨x, r, _, _, h1⟩, h2⟩ := h
    rcases List.mem_cons.mp hb with rfl | hb
    · rw [h1] at e; cases e
    · obtain ⟨q, hq, rfl⟩ := List.mem_map.mp hb
      obtain ⟨ps, h3, _⟩ := h2 q hq
      rw [h3] at e; cases e
  gr := fun H H' Z h g n => by
    obtain ⟨⟨x', r', h0, h1, h2⟩, h3⟩ := h
    refine ⟨⟨x', r', h0, h1, g _ _ (fun z => (n _ z).1 List.mem_cons_self) h2⟩, fun q hq => ?_⟩
    obtain ⟨ps, e1, e2, e3⟩ := h3 q hq
    refine ⟨ps, g _ _ (fun z => (n _ z).1 (List.mem_cons_of_mem _ (List.mem_map.mpr ⟨q, hq, rfl⟩))) e1, e2, fun pos cv hc => ?_⟩
    obtain ⟨c, e4, e5⟩ := e3 pos cv hc
    refine ⟨c, e4, g _ _ (fun z => ?_) e5⟩
    rcases (n _ z).2 _ e5 with ⟨_, e6⟩ | ⟨_, e6⟩ <;> cases e6
open LamX NdefX in
instance isTown_twN (p : Addr) (T : List NTab) : IsTown (twN p T) where
  ha := List.mem_cons_self
  town := fun H h => h.1
  put := fun H H' x r h g h0 h1 e => by
    obtain ⟨⟨x', r', _, _, h2⟩, h3⟩ := h
    refine ⟨⟨x, r, h0, h1, e⟩, fun q hq => ?_⟩
    obtain ⟨ps, e1, e2, e3⟩ := h3 q hq
    refine ⟨ps, g _ _ (fun z => ?_) e1, e2, fun pos cv hc => ?_⟩
    · have z' : q.1 = p := List.mem_singleton.mp z
      rw [z', h2] at e1; cases e1
    · obtain ⟨c, e4, e5⟩ := e3 pos cv hc
      refine ⟨c, e4, g _ _ (fun z => ?_) e5⟩
      have z' : c = p := List.mem_singleton.mp z
      rw [z', h2] at e5; cases e5
theorem ML.town2 {M : List Addr} {H : Hp} {p : Addr} (h : ML M H p [.int 0, .int 0]) : ∃ x r : Int, 0 ≤ x ∧ 0 ≤ r ∧ H p = some (.lst [.int x, .int r]) := by
  obtain ⟨_, vs, e, d⟩ := h
  cases d with
  | cons d1 d2 =>
    cases d2 with
    | cons d2 d3 =>
      cases d3
      rw [dq_int d1, dq_int d2] at e
      exact ⟨0, 0, by decide, by decide, e⟩
/-- a town alone -/
abbrev tw0 (p : Addr) : Tw := twN p []
theorem ML.town {M : List Addr} {H : Hp} {p : Addr} (h : ML M H p [.int 0, .int 0]) : TownAt (tw0 p) H := ⟨h.town2, fun q hq => by simp at hq⟩
/-- where the law stands: since Hb nothing visible has changed -/
structure StaL (K : PySem.W.Frag) (M : List Addr) (t : Tw) (Hb H : Hp) (σ : L2.St) (ρ : List DV) : Prop extends StaT K M t H σ ρ where
  sb : Same (hid M Hb) (hid M H)
section
variable {K : PySem.W.Frag} {M : List Addr} {t : Tw} {Hb H : Hp} {σ : L2.St} {ρ : List DV} {D : Ends} {te : TE} {tt : TT} {tu tw tz : TS} {i : Nat} {P : DV → Prop} {x : DV}
theorem StaL.ofS {H' : Hp} {σ' : L2.St} {ρ' : List DV} (s : StaL K M t Hb H σ ρ) (h : Same H H') (a : Sta K M H' σ' ρ') : StaL K M t Hb H' σ' ρ' := ⟨s.toStaT.of h a, s.sb.trans (Same.hid h)⟩
theorem StaL.ofG {H' : Hp} {σ' : L2.St} {ρ' : List DV} (s : StaL K M t Hb H σ ρ) (g : Gr t.L H H') (a : StaT K M t H' σ' ρ') : StaL K M t Hb H' σ' ρ' := ⟨a, s.sb.trans (Gr.hidT s.n g)⟩
theorem l_asg (s : StaL K M t Hb H σ ρ) (h : EvX (cz K M H) te ρ x) (k : ∀ σ' H', StaL K M t Hb H' σ' (ρ.set i x) → tz D σ' H') : tSeq (tAsg te (gName i)) tz D σ H :=
  q_asg s.sta h fun σ' H' e a => k σ' H' (s.ofS e a)
theorem l_draw (s : StaL K M t Hb H σ ρ) (h : EvT (czT K M t H) t te ρ P) (k : ∀ x σ' H', P x → StaL K M t Hb H' σ' (ρ.set i x) → tz D σ' H') : tSeq (tAsg te (gName i)) tz D σ H :=
  qt_asg s.toStaT h fun x σ' H' p g a => k x σ' H' p (s.ofG g a)
theorem l_skip (s : StaL K M t Hb H σ ρ) (h : EvB (cz K M H) tt ρ false) (k : ∀ H', StaL K M t Hb H' σ ρ → tz D σ H') : tSeq (tIfS tt tu tNext) tz D σ H :=
  q_when s.sta h (fun z => by cases z) fun _ H' e a => k H' (s.ofS e a)
theorem l_skipS (s : StaL K M t Hb H σ ρ) (h : EvB (cz K M H) tt ρ false) (k : ∀ H', StaL K M t Hb H' σ ρ → D.nx σ H') : tIfS tt tu tNext D σ H :=
  s_if s.sta h (fun z => by cases z) fun _ H' e a => k H' (s.ofS e a)
theorem l_drop (s : StaL K M t Hb H σ ρ) (h : EvX (cz K M H) te ρ x) (k : ∀ H', StaL K M t Hb H' σ ρ → tz D σ H') : tSeq (tDrop te) tz D σ H :=
  q_drop s.sta h fun H' e a => k H' (s.ofS e a)
theorem l_when {b : Bool} (s : StaL K M t Hb H σ ρ) (h : EvB (cz K M H) tt ρ b) (h1 : b = true → ∀ H', StaL K M t Hb H' σ ρ → tu { D with nx := tz D } σ H') (h2 : b = false → ∀ H', StaL K M t Hb H' σ ρ → tw { D with nx := tz D } σ H') : tSeq (tIfS tt tu tw) tz D σ H :=
  q_if s.sta h (fun e H' e' a => h1 e H' (s.ofS e' a)) fun e H' e' a => h2 e H' (s.ofS e' a)
theorem LS.mk {R : List DV → Prop} {ρ' : List DV} (s : StaL K M t Hb H σ ρ') (r : R ρ') : LS K M (fun ρ' H' => R ρ' ∧ TownAt t H') Hb σ H := ⟨ρ', s.sb, s.sta, r, s.tw⟩
theorem l_for {wi : TI} {g : TG} {α : Type} {ys : List α} {it : α → IV} {js : List Nat} {up : α → List DV → List DV} (s : StaL K M t Hb H σ ρ) (hi : EvI (cz K M H) wi ρ (ys.map it)) (hg : ∀ y ∈ ys, ∀ ρ', GOk K js g (it y) ρ' (up y ρ'))
    (R : List DV → Prop) (h0 : R ρ)
    (hs : ∀ y σ' ρ' H' Hc, y ∈ ys → R ρ' → StaL K M t Hc H' σ' (up y ρ') → tu { D with nx := LS K M (fun ρ' H' => R ρ' ∧ TownAt t H') Hc, ct := LS K M (fun ρ' H' => R ρ' ∧ TownAt t H') Hc, bk := tz D } σ' H')
    (hd : ∀ σ' ρ' H', R ρ' → StaL K M t Hb H' σ' ρ' → tz D σ' H') : tSeq (tFor wi g tu) tz D σ H := by
  refine q_for s.sta hi hg (fun _ ρ' H' => R ρ' ∧ TownAt t H') (fun H1 s1 => ⟨h0, s.tw.same s1⟩) ?_ ?_
  · rintro i y σ' ρ' H' H3 Hc hy sb sm ⟨r, w⟩ s3 S3
    exact hs y σ' ρ' H3 Hc (List.mem_of_getElem? hy) r ⟨⟨S3, s.tm, w.same s3⟩, sm.trans (Same.hid s3)⟩
  · rintro σ' ρ' H' sm S3 ⟨r, w⟩
    exact hd σ' ρ' H' r ⟨⟨S3, s.tm, w⟩, s.sb.trans sm⟩
end
section
variable {c : Cz} {d : D}
theorem rx_neS (hp : d.plain = true) (hz : d.depth ≤ 60) : RX c rNeQ (.d d) (.d d) (.d (.bool false)) := by
  have := rx_ne (c := c) (d := d) (e := d) (by omega)
  rw [PySem.SeqAt.eqv_refl_plain d hp] at this
  exact this
theorem rx_eqS (hp : d.plain = true) (hz : d.depth ≤ 60) : RX c rEqQ (.d d) (.d d) (.d (.bool true)) := by
  have := rx_eq (c := c) (d := d) (e := d) (by omega)
  rw [PySem.SeqAt.eqv_refl_plain d hp] at this
  exact this
theorem plain_ws (l : List W) : (encW l).plain = true := by
  show PyData.plainAll (l.map ds) = true
  induction l with
  | nil => rfl
  | cons a l ih => show (PyData.plain (ds a) && PyData.plainAll (l.map ds)) = true; rw [ih]; rfl
theorem depth_w (l : List W) : (encW l).depth ≤ 60 := by
  simp only [encW, PyData.depth]
  rw [depth_ws]; decide
theorem plain_O (o : Option W) : (encO o).plain = true := by cases o <;> rfl
theorem depth_O (o : Option W) : (encO o).depth ≤ 60 := by cases o <;> exact Nat.zero_le _
theorem rx_neB {a b : Bool} : RX c rNeQ (.d (.bool a)) (.d (.bool b)) (.d (.bool (!decide (a = b)))) := by
  have := rx_ne (c := c) (d := .bool a) (e := .bool b) (Nat.le_trans (Nat.min_le_right _ _) (Nat.zero_le _))
  have e : PyData.eqv (.bool a) (.bool b) = decide (a = b) := by cases a <;> cases b <;> rfl
  rw [e] at this; exact this
/-- a test that two are alike is false -/
theorem eb_same {ta tb : TE} {ρ : List DV} {x y : D} (ha : EvX c ta ρ (.d x)) (hb : EvX c tb ρ (.d y)) (e : x = y) (hp : x.plain = true) (hz : x.depth ≤ 60) : EvB c (tTest (tOp rNeQ ta tb)) ρ false := by
  subst e
  exact eb_test (ev_op ha hb (rx_neS hp hz))
theorem eb_or2 {tt tu : TT} {ρ : List DV} (h1 : EvB c tt ρ false) (h2 : EvB c tu ρ false) : EvB c (tOr tt tu) ρ false := eb_or h1 fun _ => h2
end
/-! the rule for the law -/
def spLaw (K : PySem.W.Frag) : Sp := fun vs H Q _ => ∃ (a : Addr) (ns : List Int), vs = [.ref a] ∧ SqL K H a (ns.map V.int) ∧ ns.length ≤ 63 ∧ ∀ H', Q (.bl true) H'
theorem law_ok {P : Program} {w : World} {K : PySem.W.Frag} {mg : Str → Option Value} {st : Stmt} {N : List Str} {fa : Addr} (d : ∃ f, DefAt K "law" st f) (hm : Left K mg) (hfa : mg "law" = some (.ref fa)) (S : FnScope N ["_law_script"] (defScope st))
    (hbind : ∀ (kV doc pm : Value) (an : Option Addr) (cdv ct : Value) (s : Shared) (u : Value), BindsTo s (PySem.W.fnOf "law" "law" (defArgs st) (defBody st) (defScope st) .none kV doc pm an cdv ct) ⟨[u], []⟩ [("_law_script", u)])
    (body : ∀ (base : Heap), K.In base → base.Ns mainGlobals mg → ∀ (f : Addr) (cdv : Value) (A : Around) (outer : List PySem.Env) (s : Shared) (H : Hp) (vs : List V) (E : XK), Room 99 (A.deeper (envOfC "law" (defScope st) s.heap.objs.size f cdv)) →
      ∃ t, PSs (cxOf (L2N.CX P w) P w K mg base N "law" (defScope st) f cdv A outer s H E) (defBody st) t ∧ ∀ (ns : List Int) (Q : VK), ns.length ≤ 63 → Sta K [] H (L2.start N vs) (.s ns :: List.replicate (N.length - 1) .z) →
        (∀ H', Q (.bl true) H') → t { nx := fun _ H' => Q .non H', rt := Q } (L2.start N vs) H) :
    ∃ fd : FuncData, (∀ (s : Shared) (u : Value), BindsTo s fd ⟨[u], []⟩ [("_law_script", u)]) ∧ ∀ base : Heap, K.In base → base.Ns mainGlobals mg → FnOk P w K mg base (L2N.CX P w) 100 fa fd ["_law_script"] (spLaw K) := by
  obtain ⟨f, at_, ⟨oc, od, kV, doc, pm, an, cdv, ct, osl, lk, cd⟩, kp⟩ := d
  have F := fun_mk (st := st) lk cd kp
  have e := hfa.symm.trans (hm _ _ at_)
  cases e
  refine ⟨_, fun s u => hbind kV doc pm an cdv ct s u, fun base hK hN => okXN F S (fun vs H Q E h => ?_) (fun cdv A outer s H vs Q E hr h => ?_)⟩
  · obtain ⟨a, ns, rfl, _⟩ := h; rfl
  · obtain ⟨a, ns, rfl, hS, hl, q⟩ := h
    obtain ⟨t, h1, h2⟩ := body base hK hN fa cdv A outer s H [.ref a] E hr
    refine ⟨t, h1, h2 ns Q hl ⟨fun m hm => by simp at hm, ?_⟩ q⟩
    have ha : Args K (hid [] H) [V.ref a] [.s ns] := .cons ⟨a, rfl, by
      have e : hid [] H = H := by funext b; exact hid_out (by simp)
      rw [e]; exact hS⟩ .nil
    exact env_start ha
open LamX NdefX in
/-- the law's promise where tables are told -/
def spLawT (K : PySem.W.Frag) (T : List NTab) : Sp := fun vs H Q _ => ∃ (a : Addr) (ns : List Int), vs = [.ref a] ∧ SqL K H a (ns.map V.int) ∧ ns.length ≤ 63 ∧ TabsN T H ∧ ∀ H', Q (.bl true) H'
open LamX NdefX in
theorem law_okT {P : Program} {w : World} {K : PySem.W.Frag} {mg : Str → Option Value} {st : Stmt} {N : List Str} {fa : Addr} {T : List NTab} {tb : Heap → Prop} (d : ∃ f, DefAt K "law" st f) (hm : Left K mg) (hfa : mg "law" = some (.ref fa)) (S : FnScope N ["_law_script"] (defScope st))
    (hbind : ∀ (kV doc pm : Value) (an : Option Addr) (cdv ct : Value) (s : Shared) (u : Value), BindsTo s (PySem.W.fnOf "law" "law" (defArgs st) (defBody st) (defScope st) .none kV doc pm an cdv ct) ⟨[u], []⟩ [("_law_script", u)])
    (body : ∀ (base : Heap), K.In base → base.Ns mainGlobals mg → tb base → ∀ (f : Addr) (cdv : Value) (A : Around) (outer : List PySem.Env) (s : Shared) (H : Hp) (vs : List V) (E : XK), Room 99 (A.deeper (envOfC "law" (defScope st) s.heap.objs.size f cdv)) →
      ∃ t, PSs (cxOf (L2N.CX P w) P w K mg base N "law" (defScope st) f cdv A outer s H E) (defBody st) t ∧ ∀ (ns : List Int) (Q : VK), ns.length ≤ 63 → Sta K (T.map (·.1)) H (L2.start N vs) (.s ns :: List.replicate (N.length - 1) .z) → TabsN T H →
        (∀ H', Q (.bl true) H') → t { nx := fun _ H' => Q .non H', rt := Q } (L2.start N vs) H) :
    ∃ fd : FuncData, (∀ (s : Shared) (u : Value), BindsTo s fd ⟨[u], []⟩ [("_law_script", u)]) ∧ ∀ base : Heap, K.In base → base.Ns mainGlobals mg → tb base → FnOk P w K mg base (L2N.CX P w) 100 fa fd ["_law_script"] (spLawT K T) := by
  obtain ⟨f, at_, ⟨oc, od, kV, doc, pm, an, cdv, ct, osl, lk, cd⟩, kp⟩ := d
  have F := fun_mk (st := st) lk cd kp
  have e := hfa.symm.trans (hm _ _ at_)
  cases e
  refine ⟨_, fun s u => hbind kV doc pm an cdv ct s u, fun base hK hN hb => okXN F S (fun vs H Q E h => ?_) (fun cdv A outer s H vs Q E hr h => ?_)⟩
  · obtain ⟨a, ns, rfl, _⟩ := h; rfl
  · obtain ⟨a, ns, rfl, hS, hl, hT, q⟩ := h
    obtain ⟨t, h1, h2⟩ := body base hK hN hb fa cdv A outer s H [.ref a] E hr
    have tab : ∀ b ∈ T.map (·.1), ∃ ps, H b = some (.tbl ps) := fun b hb => by
      obtain ⟨q, hq, rfl⟩ := List.mem_map.mp hb
      obtain ⟨ps, e1, _⟩ := hT q hq
      exact ⟨ps, e1⟩
    have na : ∀ o, H a = some o → (∀ ps, o ≠ .tbl ps) → hid (T.map (·.1)) H a = some o := fun o e n => by
      rw [hid_out fun z => ?_]
      · exact e
      · obtain ⟨ps, e1⟩ := tab a z
        rw [e] at e1; exact n ps (Option.some.inj e1)
    refine ⟨t, h1, h2 ns Q hl ⟨fun m hm => ?_, ?_⟩ hT q⟩
    · obtain ⟨ps, e1⟩ := tab m hm
      rw [e1]; simp
    have ha : Args K (hid (T.map (·.1)) H) [V.ref a] [.s ns] := .cons ⟨a, rfl, by
      rcases hS with (h | ⟨o, h⟩) | h
      · exact .inl (.inl (na _ h fun ps e => by cases e))
      · exact .inl (.inr ⟨o, na _ h fun ps e => by cases e⟩)
      · exact .inr h⟩ .nil
    exact env_start ha
end TD
namespace TP
open PySem TD L2
theorem text_of {x : W} (h : x.length ≤ 40) (h2 : ∀ c ∈ x, c ∈ lowers) : isText (ds x) = true := by
  unfold isText isStr
  simp only [tl_sw, Bool.and_eq_true, decide_eq_true_eq, List.all_eq_true]
  exact ⟨⟨by omega, by omega⟩, fun c hc => decide_eq_true (h2 c hc)⟩
theorem mapped_chars {t : Tb} {x y : W} {p : Nat → Prop} (h : ∀ q ∈ t, ∀ c ∈ q.2, p c) (e : mapped t x = some y) : ∀ c ∈ y, p c := by
  unfold mapped at e
  obtain ⟨ps, h1, rfl⟩ := Option.map_eq_some_iff.mp e
  intro c hc
  obtain ⟨v, hv, hc'⟩ := List.mem_flatten.mp hc
  obtain ⟨k, hk, rfl⟩ := List.mem_map.mp hv
  have gv := get_val (split_mem _ (Nat.le_refl _) h1 k hk).1
  exact h _ (get_mem gv) c hc'
theorem trans_text {s : Sc} {w : W} (h : Scheme s) (hw : isWord s (ds w) = true) (hl : (TP.trans s w).length ≤ 40) : isText (ds (TP.trans s w)) = true := by
  obtain ⟨y, e, _⟩ := h.mapped hw
  have e2 : TP.trans s w = y := by unfold TP.trans; rw [e]; rfl
  rw [e2] at hl ⊢
  refine text_of hl (mapped_chars (fun q hq c hc => ?_) e)
  rw [h.writeT] at hq
  have := List.all_eq_true.mp (h.tgt2 q hq) c hc
  exact of_decide_eq_true this
end TP
theorem TD.left_of {K : PySem.W.Frag} {h : PySem.Heap} {mg : PySem.Str → Option PySem.Value} (X : K.In h) (G : h.Ns PySem.mainGlobals mg) : TD.Left K mg := fun x v e => by
  cases v with
  | none => exact PySem.W.mg_none_of X G e
  | some v => exact PySem.W.mg_of X G e
namespace TD
open PySem
theorem exc_mk {K : PySem.W.Frag} {x : Str} {C : Addr} (a : PySem.W.nsIn K mainGlobals x = some (some (.ref C))) (q : PySem.W.excIn K C [.type "ValueError", .type "Exception", .type "BaseException", .type "object"] "ValueError.__new__" = true) (k : PySem.W.keepIn K (.ref C) = true) (b : PySem.W.subIn K (.ref C) (.type "BaseException") = some true) (t : PySem.W.typeIn K (.ref C) = some (.type "type")) (i : PySem.W.isClsIn K C = true) :
    ∃ C : Addr, PySem.W.nsIn K mainGlobals x = some (some (.ref C)) ∧ PySem.W.excIn K C [.type "ValueError", .type "Exception", .type "BaseException", .type "object"] "ValueError.__new__" = true ∧ PySem.W.keepIn K (.ref C) = true ∧ PySem.W.subIn K (.ref C) (.type "BaseException") = some true ∧ PySem.W.typeIn K (.ref C) = some (.type "type") ∧ PySem.W.isClsIn K C = true := ⟨C, a, q, k, b, t, i⟩
theorem int_mk {K : PySem.W.Frag} {x : Str} {i : Int} {t : Tok} (a : PySem.W.nsIn K mainGlobals x = some (some (.int i t))) : ∃ t, PySem.W.nsIn K mainGlobals x = some (some (.int i t)) := ⟨t, a⟩
theorem str_mk {K : PySem.W.Frag} {x z z' : Str} {t : Tok} (a : PySem.W.nsIn K mainGlobals x = some (some (.str z t))) (e : z = z') : ∃ t, PySem.W.nsIn K mainGlobals x = some (some (.str z' t)) := ⟨t, e ▸ a⟩
theorem sub_mk {K : PySem.W.Frag} {x y : Str} {b : Bool} {C D : Addr} (a : PySem.W.nsIn K mainGlobals x = some (some (.ref C))) (a2 : PySem.W.nsIn K mainGlobals y = some (some (.ref D))) (e : PySem.W.subIn K (.ref C) (.ref D) = some b) :
    ∃ C D : Addr, PySem.W.nsIn K mainGlobals x = some (some (.ref C)) ∧ PySem.W.nsIn K mainGlobals y = some (some (.ref D)) ∧ PySem.W.subIn K (.ref C) (.ref D) = some b := ⟨C, D, a, a2, e⟩
end TD
namespace TD
open PySem
theorem sub_of {K : PySem.W.Frag} {mg : Str → Option Value} {x y : Str} {b : Bool} {C D : Addr} (hm : Left K mg) (a : PySem.W.nsIn K mainGlobals x = some (some (.ref C))) (a2 : PySem.W.nsIn K mainGlobals y = some (some (.ref D))) (e : PySem.W.subIn K (.ref C) (.ref D) = some b) :
    PySem.W.subIn K (.ref (xa mg x)) (.ref (xa mg y)) = some b := by rw [xa_of hm a, xa_of hm a2]; exact e
end TD
set_option Elab.async false
set_option linter.all false
set_option maxRecDepth 100000
set_option maxHeartbeats 400000
/-! Defs called with the exception that a suite holds. -/
namespace TD
open PySem PySem.Spec PyProof.Rows L2 TP
/-- a def called within a suite: its promise knows the handled exception (its place, class, dict) -/
structure FnE (P : Program) (w : World) (K : PySem.W.Frag) (mg : Str → Option Value) (base : Heap) (k : Nat) (f : Addr) (fd : FuncData) (ps : List Str) (sp : Addr → Value → Option Addr → Sp) : Prop where
  len : ∀ a cls d vs H Q E, sp a cls d vs H Q E → vs.length = ps.length
  run : ∀ (A : Around) (outer : List PySem.Env) (s : Shared) (H : Hp) (args : PySem.Args) (us : List Value) (vs : List V) (Q : VK) (E : XK) (p : Addr × Obj) (cls : Value) (d : Option Addr), L2H.RoomH k A → L2H.Hot1 A p → L2H.PinOk outer H s p → L2N.Zn cls d p.2 → Env0 P w K mg base A outer s H → BindsTo s fd args (ps.zip us) → Vals vs us → sp p.1 cls d vs H Q E →
    codeAny (model P w) A (.call (.ref f) args) (CR (L2N.CX P w) outer P w H s Q E) s
theorem fnE_of {P : Program} {w : World} {K : PySem.W.Frag} {mg : Str → Option Value} {base : Heap} {k : Nat} {f : Addr} {name qual : Str} {params : Arguments} {body : List Stmt} {scope : Scope} {dV kV doc pm cdv ct oc : Value} {an od : Option Addr}
    {osl : Array (Option Value)} {N ps : List Str} {sp : Addr → Value → Option Addr → Sp} (lk : K.lookup f = some ⟨oc, od, .func (PySem.W.fnOf name qual params body scope dV kV doc pm an cdv ct), osl⟩) (hcd : PySem.W.codeIn K cdv qual = true) (S : FnScope N ps scope)
    (len : ∀ a cls d vs H Q E, sp a cls d vs H Q E → vs.length = ps.length)
    (hbody : ∀ (A : Around) (outer : List PySem.Env) (s : Shared) (H : Hp) (vs : List V) (Q : VK) (E : XK) (p : Addr × Obj) (cls : Value) (d : Option Addr), L2H.Hot1 A p → L2N.Zn cls d p.2 → L2H.RoomH k (A.deeper (envOfC qual scope s.heap.objs.size f cdv)) → sp p.1 cls d vs H Q E →
      ∃ t, PSs (L2H.cxH (L2N.CX P w) P w K mg base N qual scope f cdv A outer s H E p) body t ∧ t { nx := fun _ H' => Q .non H', rt := Q } (L2.start N vs) H) :
    FnE P w K mg base (k + 1) f (PySem.W.fnOf name qual params body scope dV kV doc pm an cdv ct) ps sp := by
  constructor
  · exact len
  intro A out st H ar us vs Q E p cls d room hot pin zn e0 bt rel want
  have sz := len _ _ _ _ _ _ _ want
  have kin : K.In st.heap := e0.mod.kin.keeps fun b o e => (e0.bs b o e).1
  have nl : st.heap.NoLimit := e0.mod.nolimit.keeps fun b o e => (e0.bs b o e).1
  have kinds : ∀ y ∈ ps.zip us, scope.names.lookup y.1 = some .local ∨
      (scope.names.lookup y.1 = some .cell ∧ ((cellsFrom (st.heap.objs.size + 1) scope.names []).lookup y.1).isSome = true) := by
    rintro ⟨n, v⟩ hy
    refine (S.par n (List.of_mem_zip hy).1).imp id fun q => ?_
    exact ⟨q, PySem.W.cellsFrom_some _ _ _ (.inl q)⟩
  have bd := bt
  refine codeAny_call_function room.depth (kin _ _ lk) rfl S.co S.gen
    rfl (PySem.W.codeRec_of kin hcd) (bd _ _ _ _ ?_)
  refine wpAny_newFunctionEnv_cells S.kind kinds
    fun en hen s1 fr => ?_
  subst hen
  refine ⟨nl.keeps fr.toInCall.keep,
    codeAny_func ?_⟩
  obtain ⟨t, ht, rd⟩ := hbody A out st H vs Q E p cls d hot zn (room.deeper _) want
  have J := L2H.inv_startH (CX := L2N.CX P w) (mg := mg) (base := base) (E := E) (qual := qual) (f := f) (cd := cdv) S pin e0 sz rel fr
  refine wpAny_mono (ht.run [] s1 _ H _ J rd) ?_ fun _ _ h => h
  intro fl s2 hs
  match fl, hs with
  | .ret u, ⟨v, σ', H', J2, rv, q⟩ => exact ⟨v, H', J2.os, J2.bare, J2.base, J2.hok, rv, q⟩
  | .next, ⟨σ', H', J2, q⟩ => exact ⟨V.non, H', J2.os, J2.bare, J2.base, J2.hok, rfl, q⟩
  | .brk, ⟨_, _, _, q⟩ => exact q.elim
  | .cont, ⟨_, _, _, q⟩ => exact q.elim
section
variable {Y : Cx} {k : Nat} {x : Str} {f : Addr} {fd : FuncData} {ps : List Str} {sp : Addr → Value → Option Addr → Sp} {a : Addr} {oe : Obj} {pn : List (Addr × Obj)} {cls : Value} {d : Option Addr} {q pos : Pos} {e : Expr} {es : List Expr} {t : TA}
/-- a call of such a def in a suite -/
theorem pe_callE (F : FnE Y.prog Y.w Y.K Y.mg Y.base k f fd ps sp) (hr : Room k Y.A) (hz : L2N.Zn cls d oe) (hf : ∃ vs, oe.data = .fields vs) (hg : Gl Y x) (hm : Y.mg x = some (.ref f)) (hk : PySem.W.keepIn Y.K (.ref f) = true) (hb : Binds Y.K fd ps [])
    (ha : PA (Y.suite a ((a, oe) :: pn)) (e :: es) t) (hdb : (x == ("__debug__" : Str)) = false := by decide) (he : starEach (e :: es) Y.env = (false, eval e Y.env) :: starEach es Y.env := by rfl) (hpl : (backTo pos (starEach es Y.env)).any (·.1) = false := by rfl) :
    PE (Y.suite a ((a, oe) :: pn)) (.Call (.Name x q) (e :: es) [] pos) (tCallS (sp a cls d) (fun _ => E0) t) := by
  constructor
  intro pins s σ H Q I h
  refine wpAny_Call_Name_kw (ld_glob I hg hm ?_ hdb)
  refine PySem.W.callWith_K (h₀ := Y.base) I.ok.mod.kin hk (thn (ha.run pos pins s σ H _ I h)
    fun us s1 ⟨vs, H1, I1, r, w⟩ => ⟨I1.kIn, ?_⟩) he hpl
  have hl : us.length = ps.length := by rw [← r.length]; exact F.len _ _ _ _ _ _ _ w
  have b := hb s1 us I1.kIn (by rw [List.append_nil]; exact hl)
  rw [List.append_nil] at b
  have P1 := I1.pin (a, oe) (List.mem_append_left _ List.mem_cons_self)
  have hpin : L2H.PinOk Y.stack H1 s1 (a, oe) := ⟨P1.1, P1.2.1, fun hm => (List.mem_cons.mp (I1.stkSub a hm)).elim P1.2.2.1 P1.2.2.2.1, P1.2.2.2.2⟩
  obtain ⟨fs, hfs⟩ := hf
  have hot : L2H.Hot1 (Y.A.mark (some (.ref a))) (a, oe) := ⟨rfl, fs, hfs, hz.2.2 fs hfs⟩
  refine wpAny_call (codeAny_mono (F.run (Y.A.mark (some (.ref a))) Y.stack s1 H1 ⟨us, []⟩ us vs Q E0 (a, oe) cls d ⟨hr.dp, hr.un⟩ hot hpin hz I1.env0 b r w) ?_)
  intro r s' hq
  match r, hq with
  | .error e', ⟨_, _, _, _, _, _, _, _, _, _, _, _, z⟩ => exact z.elim
  | .ok (.ret u), hq => exact I1.after hq
end
section
variable {X : Cx}
/-- isinstance(e, c), e the pinned exception at a -/
theorem call_isP {a D : Addr} {oe : Obj} (C : ExcC X.K D) (hp : (a, oe) ∈ X.pn) (hz : Zc (.ref D) none oe) (hf : ∃ vs, oe.data = .fields vs) : CallR X (.builtin "isinstance") (rIsE X.K D a) := by
  rintro pins s σ H xs us Q I r ⟨c, cv, b, rfl, hcv, e, q⟩
  obtain ⟨u, v, rfl, rx, rt⟩ := vals2 r
  cases rx
  obtain rfl := hcv _ rt
  have hget := (I.pin (a, oe) (List.mem_append_left _ hp)).1
  obtain ⟨vs, hv⟩ := hf
  have J : PySem.W.InstAt s.heap a oe D none := by
    cases oe with
    | mk oc od oda osl =>
      obtain ⟨h1, h2⟩ := hz
      simp only at h1 h2 hv
      subst h1 h2 hv
      exact ⟨hget, rfl, rfl, trivial⟩
  have fin : ∀ tk, EP X pins σ Q (.bool b) { s with toks := tk } := fun tk => ⟨.bl b, H, I.tok tk, rfl, q⟩
  exact PySem.W.kia_one (PySem.W.handS_kitx_exc C.hg C.hk C.hs C.hd C.ha C.hn C.ht C.hm) I.kIn J e (fun z => nomatch z) fin
end
end TD
set_option Elab.async false
set_option linter.all false
set_option maxRecDepth 100000
set_option maxHeartbeats 400000
/-! Lists shown again, counted; defs as values. -/
namespace TD
open PySem PySem.Spec PyProof.Rows L2 TP
section
variable {K : PySem.W.Frag} {M : List Addr} {H : Hp} {σ : L2.St} {ρ : List DV} {i : Nat}
/-- a hidden list shown again -/
theorem unhideL {p : Addr} {xs : List PyData} (s : Sta K (p :: M) H σ ρ) (np : p ∉ M) (m : ML (p :: M) H p xs) (h : ρ[i]? = some (.v (.ref p))) : Sta K M H σ (ρ.set i (.d (.list xs))) := by
  have d := m.data (M' := M) (fun b hb => List.mem_cons_of_mem _ hb) np
  refine ⟨fun b hb => s.lv b (List.mem_cons_of_mem _ hb), ?_⟩
  obtain ⟨v, e1, e2⟩ := s.env.get h (by intro z; cases z)
  obtain rfl : v = V.ref p := e2
  have := (s.env.mono (hid_cons (M := M))).set i (SOk.of (x := .d (.list xs)) d)
  have e3 : σ.set i (some (.ref p)) = σ := by
    apply List.ext_getElem?
    intro j
    rw [List.getElem?_set]
    split
    · rename_i q; subst q; rw [e1]; split
      · rfl
      · rename_i q2; rw [List.getElem?_eq_none (by omega)] at e1; cases e1
    · rfl
  rw [e3] at this; exact this
end
section
variable {X : Cx}
/-- xs.count(y), by data -/
def rCntD : V → List V → Hp → VK → Prop := fun x xs H Q => ∃ (a : Addr) (y : V) (d : D) (ds : List D), x = .ref a ∧ xs = [y] ∧ Dq H (.ref a) (.list ds) ∧ Dq H y d ∧ PyData.canLayAll0 ds = true ∧ d.canLay0 = true ∧ min (PyData.depthAll ds) d.depth ≤ 60 ∧ Q (.int (ds.countP fun z => PyData.eqv z d : Nat)) H
theorem mt_countD (hu : X.A.units + 65 < cLine) : MtR X "list.count" rCntD := by
  rintro pins s σ H x xs v us Q I rx rxs ⟨a, y, d, ds, rfl, rfl, hl, hy, c1, c2, hz, q⟩
  cases rx
  obtain ⟨uy, rfl, ry⟩ := vals1 rxs
  obtain ⟨bs, r1⟩ := rd_q I hy ry
  obtain ⟨a', vs, ea, ha, hv⟩ := dq_list hl
  cases ea
  obtain ⟨its, rv, pl, hlen⟩ := I.list (.inl (.inl ha))
  obtain ⟨ob, n, ho, hcls, hnn, hdat⟩ := pl
  obtain ⟨oc, od, oda, osl⟩ := ob
  simp only at hcls hdat
  subst hcls hdat
  obtain ⟨as, h4⟩ := rdAll_q I hv rv
  have hmap : its.map (SeqAt.readOf s.heap) = ds := SeqAt.readsAll_map ds its as c1 h4
  have room : X.A.units + 1 + min (PyData.depthAll ds) d.depth < cLine := by omega
  have eqs := SeqAt.items_eqAt (vs := its.toArray) (show ReadsAll s.heap its.toArray.toList ds as from h4) r1 c1 c2 room
  refine call_meets PySem.F.slot_list_count ⟨_, ho, rfl⟩ PySem.F.entry_list_count
    (PySem.F.args_list_count_2 _ _) (SeqAt.list_countAt a its.toArray n od osl uy
      (fun u => PyData.eqv (SeqAt.readOf s.heap u) d)) ⟨ho, eqs, ?_⟩
  have e : its.toArray.toList.countP (fun u => PyData.eqv (SeqAt.readOf s.heap u) d) = ds.countP fun z => PyData.eqv z d := by
    rw [← hmap, List.countP_map]; rfl
  rw [e]
  exact ⟨.int _, H, I.tok _, ⟨_, rfl⟩, q⟩
end
section
variable {c : Cz} {K : PySem.W.Frag} {ρ : List DV}
theorem ty_list {H : Hp} {M : List Addr} {v : V} {xs : List D} (h : VOk K (hid M H) v (.d (.list xs))) : tyV K "list" v H := by
  obtain ⟨a, vs, rfl, h1, _⟩ := dq_list h
  exact .inl ⟨rfl, vs, sqL_of h1⟩
theorem rm_count {d : D} {ds : List D} (c1 : PyData.canLayAll0 ds = true) (c2 : d.canLay0 = true) (hz : min (PyData.depthAll ds) d.depth ≤ 60) : RMX c rCntD (.d (.list ds)) [.d d] (.d (.int (ds.countP fun z => PyData.eqv z d : Nat))) := fun H1 _ _ v vs hv ha Q q => by
  obtain ⟨w, rfl, o⟩ := args1 ha
  obtain ⟨a, ws, rfl, _, _⟩ := dq_list hv
  exact ⟨a, w, d, ds, rfl, rfl, dq_up _ _ hv, dq_up _ _ o, c1, c2, hz, q _ H1 (Same.refl _) (Dq.int _)⟩
theorem rm_index {d z : D} {ds : List D} {j : Nat} (c1 : SeqAt.shaped (.list ds) = true) (c2 : SeqAt.shaped d = true) (h1 : ds[j]? = some z) (h2 : PyData.eqv z d = true) (h3 : ∀ m z', m < j → ds[m]? = some z' → PyData.eqv z' d = false) : RMX c (rIndexD c.K) (.d (.list ds)) [.d d] (.d (.int (j : Nat))) := fun H1 _ _ v vs hv ha Q q => by
  obtain ⟨w, rfl, o⟩ := args1 ha
  obtain ⟨a, ws, rfl, _, _⟩ := dq_list hv
  exact ⟨a, w, d, ds, j, z, rfl, rfl, dq_dp _ _ (dq_up _ _ hv), dq_dp _ _ (dq_up _ _ o), c1, c2, h1, h2, h3, q _ H1 (Same.refl _) (Dq.int _)⟩
/-- a list of values that are no data, read at once -/
theorem ev_pick {ta : TA} {tb : TE} {vs : List V} {j : Int} {v : V} (ha : EvA c ta ρ (vs.map DV.v)) (hb : EvX c tb ρ (.d (.int j))) (e : atI vs j = some v) (hz : vs.length ≤ 1000 := by decide) : EvX c (tSub K (tLst ta) tb) ρ (.v v) := fun H1 σ a Q q =>
  .inl (ha H1 σ a _ fun ws H2 s2 o2 => by
    have ew : ws = vs := by
      clear q e hz ha
      induction vs generalizing ws with
      | nil => cases o2; rfl
      | cons x vs ih =>
        cases o2 with
        | cons h t => rw [ih _ t, show _ = x from h]
    subst ew
    refine ⟨Nat.le_trans hz (by decide), fun p hp => hb _ σ ((a.same s2).same (same_new hp _)) _ fun u H3 s3 o3 => ?_⟩
    obtain rfl := dq_int o3
    exact .inl ⟨p, ws, j, v, rfl, rfl, .inl (.inl (s3 _ _ upd_same)), e, q v H3 (s2.trans ((same_new hp _).trans s3)) rfl⟩)
end
/-! ### a def as a value -/
section
variable {X : Cx} {CX : CXT} {k : Nat} {x : Str} {ps : List Str} {sp : Sp} {pos : Pos} {fe : Expr} {tf : TE} {W : WX} {es : List Expr} {t : TA} {E : L2.St → XK}
theorem fn_at (F : FnIs X.prog X.w X.K X.mg X.base CX k x ps sp) : X.mg x = some (.ref (xa X.mg x)) := by
  obtain ⟨f, fd, _, hm, _⟩ := F
  have : xa X.mg x = f := by unfold xa; rw [hm]
  rw [this]; exact hm
theorem pe_fn (F : FnIs X.prog X.w X.K X.mg X.base CX k x ps sp) (hg : Gl X x := by rfl) (hd : (x == ("__debug__" : Str)) = false := by decide) : PE X (.Name x pos) (tC (.ref (xa X.mg x))) := pe_glob hg (fn_at F) rfl hd
/-- f(..), f one of the defs told -/
def tCallV (L : List (Addr × Sp)) (E : L2.St → XK) (tf : TE) (t : TA) : TE := fun σ H Q => tf σ H fun v H1 => ∃ c ∈ L, v = .ref c.1 ∧ t σ H1 fun vs H2 => c.2 vs H2 Q (E σ)
/-- what is told of such a def -/
def FnV (X : Cx) (CX : CXT) (k : Nat) (c : Addr × Sp) : Prop := ∃ (fd : FuncData) (ps : List Str), FnOk X.prog X.w X.K X.mg X.base CX k c.1 fd ps c.2 ∧ PySem.W.keepIn X.K (.ref c.1) = true ∧ Binds X.K fd ps []
theorem FnIs.v (F : FnIs X.prog X.w X.K X.mg X.base CX k x ps sp) {j : Nat} (h : k ≤ j) : FnV X CX j (xa X.mg x, sp) := by
  obtain ⟨f, fd, G, hm, hk, hb⟩ := F
  have : xa X.mg x = f := by unfold xa; rw [hm]
  rw [this]
  exact ⟨fd, ps, G.mono h, hk, hb⟩
theorem pe_callV {L : List (Addr × Sp)} {e : Expr} (hf : PE X fe tf) (F : ∀ c ∈ L, FnV X CX k c) (hr : Room k X.A) (hx : ∀ σ, PassesAt CX X σ (E σ)) (ha : PA X (e :: es) t)
    (hev : eval (.Call fe (e :: es) [] pos) X.env = (do callWith pos (← eval fe X.env) [] (backTo pos (starEach (e :: es) X.env)) (backToKw pos (keywordEach [] X.env))))
    (he : starEach (e :: es) X.env = (false, eval e X.env) :: starEach es X.env) (hpl : (backTo pos (starEach es X.env)).any (·.1) = false) : PE X (.Call fe (e :: es) [] pos) (tCallV L E tf t) := by
  refine ⟨fun pins s σ H Q I h => ?_⟩
  refine Call_ (thn (hf.run pins s σ H _ I h) fun fv s1 ⟨v, H1, I1, rv, q1⟩ => ?_) hev
  obtain ⟨c, hc, rfl, q2⟩ := q1
  obtain rfl : fv = Value.ref c.1 := rv
  obtain ⟨fd, ps', G, hk, hb⟩ := F c hc
  refine PySem.W.callWith_K (h₀ := X.base) I1.ok.mod.kin hk
    (thn (ha.run pos pins s1 σ H1 _ I1 q2) fun us s2 ⟨vs, H2, I2, r, w2⟩ => ⟨I2.kIn, ?_⟩) he hpl
  exact run_fnS G hr hb (hx σ) I2 r w2
end
section
variable {c : Cz} {ρ : List DV} {tf : TE} {ta : TA} {L : List (Addr × Sp)} {W : WX} {ok : List DV → DV → Prop} {bad : List DV → Value → Prop} {f : Addr}
/-- a call by value in a try that gives -/
theorem ev_callV {xs : List DV} {x : DV} (hf : EvX c tf ρ (.v (.ref f))) (hL : (f, spX c.K ok bad) ∈ L) (ha : EvA c ta ρ xs) (h : ok xs x) : EvX c (tCallV L (WE W) tf ta) ρ x := fun H1 σ a Q q => hf H1 σ a _ fun v H2 s2 o2 => by
  obtain rfl : v = V.ref f := o2
  refine ⟨_, hL, rfl, ha H2 σ (a.same s2) _ fun vs H3 s3 o3 => ?_⟩
  exact ⟨c.M, xs, ((a.same s2).same s3).lv, o3, .inl ⟨x, h, fun v H4 s4 o4 => q v H4 (s2.trans (s3.trans s4)) o4⟩⟩
/-- a call by value in a try that raises -/
theorem bad_callV {K : PySem.W.Frag} {M : List Addr} {H : Hp} {σ : L2.St} {xs : List DV} {C : Value} {Q : VK} (s : Sta K M H σ ρ) (hf : EvX (cz K M H) tf ρ (.v (.ref f))) (hL : (f, spX K ok bad) ∈ L) (ha : EvA (cz K M H) ta ρ xs) (h : bad xs C)
    (q : ∀ H', Same H H' → Sta K M H' σ ρ → W C none σ H') : tCallV L (WE W) tf ta σ H Q := hf H σ s.at _ fun v H2 s2 o2 => by
  obtain rfl : v = V.ref f := o2
  refine ⟨_, hL, rfl, ha H2 σ (s.at.same s2) _ fun vs H3 s3 o3 => ?_⟩
  exact ⟨M, xs, ((s.same s2).same s3).lv, o3, .inr ⟨C, h, fun H4 s4 => q H4 (s2.trans (s3.trans s4)) (((s.same s2).same s3).same s4)⟩⟩
end
end TD
set_option Elab.async false
set_option linter.all false
set_option maxRecDepth 100000
set_option maxHeartbeats 400000
/-! Texts cut at a sign, joined; schemes as text. -/
namespace TP
open PySem TD L2
/-- x cut at each c -/
def splitC (c : Nat) : W → List W
  | [] => [[]]
  | x :: r => if x = c then [] :: splitC c r else match splitC c r with
    | [] => [[x]]
    | p :: ps => (x :: p) :: ps
theorem splitC_ne (c : Nat) : ∀ x : W, splitC c x ≠ []
  | [] => by simp [splitC]
  | x :: r => by
    unfold splitC
    split
    · simp
    · split <;> simp
theorem splitC_hit (c : Nat) (r : W) : splitC c (c :: r) = [] :: splitC c r := by rw [splitC, if_pos rfl]
theorem splitC_miss {c x : Nat} (h : x ≠ c) (r : W) : splitC c (x :: r) = (match splitC c r with | [] => [[x]] | p :: ps => (x :: p) :: ps) := by rw [splitC, if_neg h]
theorem spl_splitC (c : Nat) : ∀ (x acc : W), TL.spl [c] 0 acc x = (match splitC c x with | [] => [acc] | p :: ps => (acc ++ p) :: ps)
  | [], acc => by rw [TL.spl_nil]; simp [splitC]
  | x :: r, acc => by
    by_cases h : x = c
    · subst h
      have h1 : TL.pre [x] (x :: r) = true := TL.pre_self [x] r
      rw [TL.spl_hit h1]
      show acc :: TL.spl [x] 0 [] r = _
      rw [spl_splitC x r [], splitC_hit]
      cases e : splitC x r with
      | nil => exact absurd e (splitC_ne x r)
      | cons p ps => simp
    · have h1 : TL.pre [c] (x :: r) = false := TL.pre_of_head [] r h
      rw [TL.spl_miss h1, spl_splitC c r (acc ++ [x]), splitC_miss h]
      cases e : splitC c r with
      | nil => exact absurd e (splitC_ne c r)
      | cons p ps => simp
theorem split_sw (x : W) {c : Nat} (hc : c < 256) : Txt.split (sw x) (sw [c]) = (splitC c x).map sw := by
  apply TL.map_tl_inj
  have e1 : TL.tl (sw [c]) = [c] := tl_sw [c]
  have e2 : TL.tl (sw x) = x := tl_sw x
  rw [TL.split_spl _ _ (by rw [e1]; simp) (TL.kind_ok (by simp [sw, hc])), e1, e2, spl_splitC, List.map_map]
  have e3 : (TL.tl ∘ sw) = (id : List Nat → List Nat) := by funext l; exact tl_sw l
  rw [e3, List.map_id]
  cases e : splitC c x with
  | nil => exact absurd e (splitC_ne c x)
  | cons p ps => simp
theorem splitC_len (c : Nat) : ∀ x : W, (splitC c x).length ≤ x.length + 1
  | [] => by simp [splitC]
  | x :: r => by
    have ih := splitC_len c r
    unfold splitC
    split
    · simp; exact ih
    · split
      · simp
      · rename_i p ps e; rw [e] at ih; simp at ih ⊢; omega
theorem splitC_each (c : Nat) : ∀ (x : W), ∀ p ∈ splitC c x, p.length ≤ x.length
  | [], p, hp => by simp [splitC] at hp; subst hp; simp
  | x :: r, p, hp => by
    have ih := splitC_each c r
    unfold splitC at hp
    split at hp
    · rcases List.mem_cons.mp hp with rfl | hp
      · simp
      · have := ih p hp; simp; omega
    · split at hp
      · simp at hp; subst hp; simp
      · rename_i q ps e
        rw [e] at ih
        rcases List.mem_cons.mp hp with rfl | hp
        · have := ih q List.mem_cons_self; simp; omega
        · have := ih p (List.mem_cons_of_mem _ hp); simp; omega
theorem splitC_last {c : Nat} : ∀ {p : W}, c ∉ p → splitC c p = [p]
  | [], _ => rfl
  | x :: r, h => by
    unfold splitC
    rw [if_neg (fun e => h (by rw [e]; exact List.mem_cons_self)), splitC_last fun m => h (List.mem_cons_of_mem _ m)]
theorem splitC_app {c : Nat} {r : W} : ∀ {p : W}, c ∉ p → splitC c (p ++ c :: r) = p :: splitC c r
  | [], _ => by
    show splitC c (c :: r) = _
    rw [splitC, if_pos rfl]
  | x :: p, h => by
    show splitC c (x :: (p ++ c :: r)) = _
    rw [splitC, if_neg (fun e => h (by rw [e]; exact List.mem_cons_self)), splitC_app fun m => h (List.mem_cons_of_mem _ m)]
/-! schemes as text -/
def lineW (p : W × W) : W := p.1 ++ [32] ++ p.2 ++ [10]
def fmtW (s : Sc) : W := (s.map lineW).flatten
/-- what a text is read as, rows of parts -/
def rowsD (x : W) : D := .tuple ((splitC 10 x).dropLast.map fun l => .tuple ((splitC 32 l).map ds))
theorem low_no {w : W} (h : w.all low = true) {c : Nat} (hc : c ∉ lowers) : c ∉ w := fun m => hc (of_decide_eq_true (List.all_eq_true.mp h c m))
theorem split_fmt {s : Sc} (h : ∀ p ∈ s, p.1.all low = true ∧ p.2.all low = true) : splitC 10 (fmtW s) = (s.map fun p => p.1 ++ [32] ++ p.2) ++ [[]] := by
  induction s with
  | nil => rfl
  | cons p s ih =>
    have hp := h p List.mem_cons_self
    have n10 : 10 ∉ p.1 ++ [32] ++ p.2 := by
      have a := low_no hp.1 (c := 10) (by decide)
      have b := low_no hp.2 (c := 10) (by decide)
      simp [a, b]
    have e : fmtW (p :: s) = (p.1 ++ [32] ++ p.2) ++ 10 :: fmtW s := by
      show lineW p ++ fmtW s = _
      unfold lineW
      simp
    rw [e, splitC_app n10, ih fun q hq => h q (List.mem_cons_of_mem _ hq)]
    rfl
theorem rows_fmt {s : Sc} (h : Scheme s) : rowsD (fmtW s) = encS s := by
  unfold rowsD
  rw [split_fmt fun p hp => ⟨h.src2 p hp, h.tgt2 p hp⟩, List.dropLast_concat, List.map_map]
  show PyData.tuple _ = PyData.tuple _
  congr 1
  apply List.map_congr_left
  intro p hp
  have a := low_no (h.src2 p hp) (c := 32) (by decide)
  have b := low_no (h.tgt2 p hp) (c := 32) (by decide)
  show PyData.tuple ((splitC 32 (p.1 ++ [32] ++ p.2)).map ds) = encP p
  rw [List.append_assoc, show ([32] ++ p.2 : W) = 32 :: p.2 from rfl, splitC_app a, splitC_last b]
  rfl
theorem not_fmt {x : W} (h : isScheme (rowsD x) = false) : ∀ s, Scheme s → fmtW s ≠ x := fun s hs e => by
  rw [← e, rows_fmt hs, isScheme_iff.mpr ⟨s, rfl, hs⟩] at h
  cases h
theorem small_rows {x : W} (h : x.length ≤ 100000) : small (rowsD x) := by
  have h1 := splitC_len 10 x
  refine ⟨by rw [List.length_map, List.length_dropLast]; omega, smallAll_of fun y hy => ?_⟩
  obtain ⟨l, hl, rfl⟩ := List.mem_map.mp hy
  have h2 := splitC_each 10 x l ((List.dropLast_sublist _).subset hl)
  have h3 := splitC_len 32 l
  refine ⟨by rw [List.length_map]; omega, smallAll_of fun y hy => ?_⟩
  obtain ⟨q, hq, rfl⟩ := List.mem_map.mp hy
  exact small_ds (by have := splitC_each 32 l q hq; omega)
theorem fmt_len {s : Sc} (h : Scheme s) : (fmtW s).length ≤ 80 := by
  have := flat_le (l := s.map lineW) (b := 8) fun y hy => by
    obtain ⟨p, hp, rfl⟩ := List.mem_map.mp hy
    have := h.src1 p hp
    have := h.tgt1 p hp
    simp [lineW]; omega
  rw [List.length_map] at this
  have := h.ten
  unfold fmtW
  omega
theorem fmt_head {s : Sc} (h : Scheme s) : ∃ c r, fmtW s = c :: r ∧ c ∈ lowers := by
  have h1 := h.one
  cases s with
  | nil => simp at h1
  | cons p s =>
    have a := h.src1 p List.mem_cons_self
    have b := h.src2 p List.mem_cons_self
    obtain ⟨u, v⟩ := p
    cases u with
    | nil => simp at a
    | cons c u =>
      refine ⟨c, u ++ [32] ++ v ++ [10] ++ fmtW s, ?_, of_decide_eq_true (List.all_eq_true.mp b c List.mem_cons_self)⟩
      show lineW (c :: u, v) ++ fmtW s = _
      unfold lineW
      simp
theorem fmt_end {s : Sc} (h : Scheme s) : ∃ r c, fmtW s = r ++ [c, 10] ∧ c ∈ lowers := by
  have h1 := h.one
  have hne : s ≠ [] := fun e => by rw [e] at h1; simp at h1
  have hs := List.dropLast_concat_getLast hne
  have hm : s.getLast hne ∈ s := List.getLast_mem hne
  have a := h.tgt1 _ hm
  have b := h.tgt2 _ hm
  generalize s.getLast hne = p at *
  have hv : p.2 ≠ [] := fun e => by rw [e] at a; simp at a
  have hp := List.dropLast_concat_getLast hv
  refine ⟨fmtW s.dropLast ++ p.1 ++ [32] ++ p.2.dropLast, p.2.getLast hv, ?_, of_decide_eq_true (List.all_eq_true.mp b _ (List.getLast_mem hv))⟩
  have e : fmtW s = fmtW s.dropLast ++ lineW p := by
    conv => lhs; rw [← hs]
    unfold fmtW
    rw [List.map_append, List.flatten_append]
    simp
  rw [e]
  unfold lineW
  conv => lhs; rw [← hp]
  simp
theorem end_inj {r r' : W} {a b c d : Nat} (e : r ++ [a, b] = r' ++ [c, d]) : r = r' ∧ a = c ∧ b = d := by
  have := List.append_inj' e rfl
  simp at this
  exact ⟨this.1, this.2.1, this.2.2⟩
theorem bad_cut {s : Sc} (h : Scheme s) : ∀ t, Scheme t → fmtW t ≠ (fmtW s).dropLast := fun t ht e => by
  obtain ⟨r, c, e1, hc⟩ := fmt_end h
  obtain ⟨r2, c2, e2, hc2⟩ := fmt_end ht
  rw [e1, e2, List.dropLast_append_of_ne_nil (by simp)] at e
  have e3 : r2 ++ [c2, 10] = r ++ [c] := e
  have e4 : r2 ++ [c2] ++ [10] = r ++ [c] := by rw [List.append_assoc]; exact e3
  have e5 := (List.append_inj' e4 rfl).2
  simp at e5
  rw [← e5] at hc
  revert hc; decide
theorem bad_more {s : Sc} (h : Scheme s) : ∀ t, Scheme t → fmtW t ≠ fmtW s ++ [10] := fun t ht e => by
  obtain ⟨r, c, e1, hc⟩ := fmt_end h
  obtain ⟨r2, c2, e2, hc2⟩ := fmt_end ht
  rw [e1, e2] at e
  have e4 : r2 ++ [c2, 10] = (r ++ [c]) ++ [10, 10] := by rw [e]; simp
  have := (end_inj e4).2.1
  rw [this] at hc2
  revert hc2; decide
theorem bad_front {s : Sc} : ∀ t, Scheme t → fmtW t ≠ [32] ++ fmtW s := fun t ht e => by
  obtain ⟨c, r, e1, hc⟩ := fmt_head ht
  rw [e1] at e
  have : c = 32 := by simp at e; exact e.1
  rw [this] at hc
  revert hc; decide
theorem fmt_inj {s t : Sc} (hs : Scheme s) (ht : Scheme t) (e : fmtW s = fmtW t) : s = t := by
  have := congrArg rowsD e
  rw [rows_fmt hs, rows_fmt ht] at this
  have e2 : s.map encP = t.map encP := PyData.tuple.inj this
  clear this e hs ht
  induction s generalizing t with
  | nil => cases t with
    | nil => rfl
    | cons q t => simp at e2
  | cons p s ih => cases t with
    | nil => simp at e2
    | cons q t =>
      rw [List.map_cons, List.map_cons] at e2
      injection e2 with a b
      rw [encP_inj a, ih b]
theorem encS_inj {s t : Sc} (e : encS s = encS t) : s = t := by
  have e2 : s.map encP = t.map encP := PyData.tuple.inj e
  clear e
  induction s generalizing t with
  | nil => cases t with
    | nil => rfl
    | cons q t => simp at e2
  | cons p s ih => cases t with
    | nil => simp at e2
    | cons q t =>
      rw [List.map_cons, List.map_cons] at e2
      injection e2 with a b
      rw [encP_inj a, ih b]
end TP
namespace TD
open PySem PySem.Spec PyProof.Rows L2 TP
section
variable {c : Cz} {K : PySem.W.Frag}
theorem rm_split {x : W} {k : Nat} (hk : k < 256) (h : Fits x.length) : RMX c (fun x xs H Q => ∃ a b, x = .str a ∧ xs = [.str b] ∧ (b.length == 0) = false ∧ a.length + 2 ≤ sizeLine ∧ rNewStrs (Txt.split a b) H Q) (.d (ds x)) [.d (ds [k])] (.d (encW (splitC k x))) := fun H1 _ l v vs hv ha Q q => by
  obtain ⟨w, rfl, o⟩ := args1 ha
  refine ⟨sw x, sw [k], dq_str hv, by rw [dq_str o], rfl, ?_, fun p hp => ?_⟩
  · rw [sw_len]
    have : x.length ≤ 1000000 := h
    show x.length + 2 ≤ 2 ^ 24
    omega
  · rw [split_sw x hk]
    refine q _ _ (same_new hp _) (new_lst l hp ?_)
    rw [List.map_map]
    exact dqAll_ws _
theorem join_swA (a : W) (xs : List W) : Txt.join (sw a) (xs.map sw) = sw (TL.joinL a xs) := by
  apply TL.ext_tl
  rw [TL.join_eq, TL.tl_join, List.map_map]
  have e0 : TL.tl (sw a) = a := tl_sw a
  have e : (TL.tl ∘ sw) = (id : List Nat → List Nat) := by funext l; exact tl_sw l
  rw [e0, e, List.map_id]
theorem join_size {a : W} {xs : List W} (h : xs.flatten.length + xs.length * a.length ≤ 1000000) : ((xs.map sw).map (·.length)).sum + (xs.map sw).length * (sw a).length ≤ 16777216 := by
  have e2 : ((xs.map sw).map (·.length)).sum = xs.flatten.length := by
    rw [List.length_flatten, List.map_map]
    refine congrArg List.sum ?_
    apply List.map_congr_left
    intro l _
    exact sw_len l
  rw [e2, List.length_map, sw_len]
  omega
theorem rm_joinT {a : W} {xs : List W} (h : xs.flatten.length + xs.length * a.length ≤ 1000000) : RMX c (rJoin K) (.d (ds a)) [.d (.tuple (xs.map ds))] (.d (ds (TL.joinL a xs))) := fun H1 _ _ v vs hv ha Q q => by
  obtain ⟨w, rfl, o⟩ := args1 ha
  obtain ⟨p, ob, ws, rfl, h1, h0, h2⟩ := dq_tuple o
  have e : (xs.map ds) = (xs.map sw).map PyData.str := by rw [List.map_map]; rfl
  rw [e] at h2
  obtain rfl := dqAll_strs h2
  exact ⟨sw a, p, xs.map sw, dq_str hv, rfl, .inr (sqT_of h1), join_size h, by rw [join_swA]; exact q _ H1 (Same.refl _) (Dq.str _)⟩
theorem rm_joinL {a : W} {xs : List W} (h : xs.flatten.length + xs.length * a.length ≤ 1000000) : RMX c (rJoin K) (.d (ds a)) [.d (encW xs)] (.d (ds (TL.joinL a xs))) := fun H1 _ _ v vs hv ha Q q => by
  obtain ⟨w, rfl, o⟩ := args1 ha
  obtain ⟨p, ws, rfl, h1, h2⟩ := dq_list o
  have e : (xs.map ds) = (xs.map sw).map PyData.str := by rw [List.map_map]; rfl
  rw [e] at h2
  obtain rfl := dqAll_strs h2
  exact ⟨sw a, p, xs.map sw, dq_str hv, rfl, .inl (sqL_of h1), join_size h, by rw [join_swA]; exact q _ H1 (Same.refl _) (Dq.str _)⟩
theorem rm_joinP {p : W × W} (h : p.1.length + p.2.length ≤ 1000) : RMX c (rJoin K) (.d (ds [32])) [.d (encP p)] (.d (ds (p.1 ++ [32] ++ p.2))) := by
  have := rm_joinT (c := c) (K := K) (a := [32]) (xs := [p.1, p.2]) (by simp; omega)
  have e : TL.joinL [32] [p.1, p.2] = p.1 ++ [32] ++ p.2 := by simp [TL.joinL]
  rw [e] at this
  exact this
end
end TD
set_option Elab.async false
set_option linter.all false
set_option maxRecDepth 100000
set_option maxHeartbeats 400000
/-! The def that tells which exception it was. -/
namespace TD
open PySem PySem.Spec PyProof.Rows L2 TP
/-- a def of the module, called in a suite -/
def FnIsE (P : Program) (w : World) (K : PySem.W.Frag) (mg : Str → Option Value) (base : Heap) (k : Nat) (x : Str) (ps : List Str) (sp : Addr → Value → Option Addr → Sp) : Prop :=
  ∃ (f : Addr) (fd : FuncData), FnE P w K mg base k f fd ps sp ∧ mg x = some (.ref f) ∧ PySem.W.keepIn K (.ref f) = true ∧ Binds K fd ps []
section
variable {Y : Cx} {k : Nat} {x : Str} {ps : List Str} {sp : Addr → Value → Option Addr → Sp} {a : Addr} {oe : Obj} {pn : List (Addr × Obj)} {cls : Value} {d : Option Addr} {q pos : Pos} {e : Expr} {es : List Expr} {t : TA}
theorem pe_callEI (F : FnIsE Y.prog Y.w Y.K Y.mg Y.base k x ps sp) (hr : Room k Y.A) (hz : L2N.Zn cls d oe) (hf : ∃ vs, oe.data = .fields vs)
    (ha : PA (Y.suite a ((a, oe) :: pn)) (e :: es) t) (hg : Gl Y x := by rfl) (hdb : (x == ("__debug__" : Str)) = false := by decide) (he : starEach (e :: es) Y.env = (false, eval e Y.env) :: starEach es Y.env := by rfl) (hpl : (backTo pos (starEach es Y.env)).any (·.1) = false := by rfl) :
    PE (Y.suite a ((a, oe) :: pn)) (.Call (.Name x q) (e :: es) [] pos) (tCallS (sp a cls d) (fun _ => E0) t) := by
  obtain ⟨f, fd, G, hm, hk, hb⟩ := F
  exact pe_callE G hr hz hf hg hm hk hb ha hdb he hpl
end
section
variable {P : Program} {w : World} {K : PySem.W.Frag} {mg : Str → Option Value} {base : Heap}
theorem def_okE {x : Str} {st : Stmt} {N ps : List Str} {k : Nat} {sp : Addr → Value → Option Addr → Sp} (d : ∃ f, DefAt K x st f) (hmg : ∀ f, PySem.W.nsIn K mainGlobals x = some (some (.ref f)) → mg x = some (.ref f)) (S : FnScope N ps (defScope st))
    (hbind : ∀ (kV doc pm : Value) (an : Option Addr) (cdv ct : Value) (us : List Value), us.length = ps.length → bindArgs (PySem.W.fnOf x x (defArgs st) (defBody st) (defScope st) .none kV doc pm an cdv ct) ⟨us, []⟩ = pure (ps.zip us))
    (len : ∀ a cls d vs H Q E, sp a cls d vs H Q E → vs.length = ps.length)
    (body : ∀ (f : Addr) (cdv : Value) (A : Around) (outer : List PySem.Env) (s : Shared) (H : Hp) (vs : List V) (Q : VK) (E : XK) (p : Addr × Obj) (cls : Value) (dd : Option Addr), L2H.Hot1 A p → L2N.Zn cls dd p.2 → L2H.RoomH k (A.deeper (envOfC x (defScope st) s.heap.objs.size f cdv)) → sp p.1 cls dd vs H Q E →
      ∃ t, PSs (L2H.cxH (L2N.CX P w) P w K mg base N x (defScope st) f cdv A outer s H E p) (defBody st) t ∧ t { nx := fun _ H' => Q .non H', rt := Q } (L2.start N vs) H) :
    FnIsE P w K mg base (k + 1) x ps sp := by
  obtain ⟨f, at_, ⟨oc, od, kV, doc, pm, an, cdv, ct, osl, lk, cd⟩, kp⟩ := d
  have F := fun_mk (st := st) lk cd kp
  exact ⟨f, _, fnE_of lk cd S len fun A outer s H vs Q E p cls dd hot zn hr h => body f cdv A outer s H vs Q E p cls dd hot zn hr h, hmg f at_, kp, F.binds hbind⟩
end
/-- the exceptions by their number -/
def whichAll : List (Str × Int) := [("InvalidScheme", 0), ("InvalidWord", 1), ("InvalidText", 2), ("Unreadable", 3), ("NoMarking", 4), ("InvalidChain", 5), ("InvalidFormat", 6)]
structure WhichT (K : PySem.W.Frag) (mg : Str → Option Value) (x : Str) (j : Int) : Prop where
  c : ExcC K (xa mg x)
  v : PySem.W.subIn K (.ref (xa mg x)) (.type "ValueError") = some true
  i : ∀ (y : Str) (i : Int), (y, i) ∈ whichAll → PySem.W.kitOne K (.ref (xa mg x)) (.ref (xa mg y)) = some (decide (i = j))
  j0 : j = 0 ∨ j = 1 ∨ j = 2 ∨ j = 3 ∨ j = 4 ∨ j = 5 ∨ j = 6
theorem kit_ref {K : PySem.W.Frag} {mg : Str → Option Value} {x y : Str} {b : Bool} (U : ExcT K mg y) (h0 : PySem.W.subIn K (.ref (xa mg x)) (.ref (xa mg x)) = some true) (h : PySem.W.subIn K (.ref (xa mg x)) (.ref (xa mg y)) = some b) : PySem.W.kitOne K (.ref (xa mg x)) (.ref (xa mg y)) = some b := by
  unfold PySem.W.kitOne
  by_cases e : ((Value.ref (xa mg x)) == Value.ref (xa mg y)) = true
  · rw [if_pos e]
    have e1 : xa mg x = xa mg y := Value.ref.inj (beq_iff_eq.mp e)
    rw [← e1, h0] at h
    exact h
  · rw [if_neg e]
    unfold PySem.W.kitCls
    have h2' : (PySem.W.clsIn K (xa mg y)).isSome = true := U.i
    have e2 : ((PySem.W.clsIn K (xa mg y)).isSome && PySem.W.typeIn K (.ref (xa mg y)) == some (.type "type")) = true := by
      rw [h2', U.t] <;> rfl
    show (if ((PySem.W.clsIn K (xa mg y)).isSome && PySem.W.typeIn K (.ref (xa mg y)) == some (.type "type")) = true then PySem.W.subIn K (.ref (xa mg x)) (.ref (xa mg y)) else none) = some b
    rw [if_pos e2]
    exact h
theorem WhichT.val {K : PySem.W.Frag} {mg : Str → Option Value} {x : Str} {j : Int} (W : WhichT K mg x j) : PySem.W.kitOne K (.ref (xa mg x)) (.type "ValueError") = some true := by
  unfold PySem.W.kitOne
  rw [if_neg (by intro z; cases beq_iff_eq.mp z)]
  unfold PySem.W.kitCls
  show (if PySem.W.kitMeta "ValueError" = true then _ else _) = _
  rw [if_pos (by decide +kernel)]
  exact W.v
theorem excc_mk {K : PySem.W.Frag} {x : Str} {C : Addr} (a : PySem.W.nsIn K mainGlobals x = some (some (.ref C))) (hg : PySem.W.findIn K (.ref C) "__getattribute__" = some (some (.builtin "BaseException.__getattribute__")))
    (hk : PySem.W.findIn K (.ref C) "__getattr__" = some none) (hs : PySem.W.subIn K (.ref C) (.type "BaseException") = some true) (hd : PySem.W.hasDictIn K C = true) (ha : PySem.W.findIn K (.ref C) "__class__" = some (some (.builtin "object.__class__")))
    (hn : PySem.W.specialIn K (.builtin "object.__class__") "__get__" = some (some (.builtin "getset_descriptor.__get__"))) (ht : PySem.W.takesIn K (.builtin "object.__class__") = some true) (hm : PySem.W.mroIn K C (.type "object") = some true) (hv : PySem.W.subIn K (.ref C) (.type "ValueError") = some true) :
    ∃ C : Addr, PySem.W.nsIn K mainGlobals x = some (some (.ref C)) ∧ ExcC K C ∧ PySem.W.subIn K (.ref C) (.type "ValueError") = some true := ⟨C, a, ⟨hg, hk, hs, hd, ha, hn, ht, hm⟩, hv⟩
theorem which_mk {K : PySem.W.Frag} {mg : Str → Option Value} {x : Str} {j : Int} (hm : Left K mg) (h : ∃ C : Addr, PySem.W.nsIn K mainGlobals x = some (some (.ref C)) ∧ ExcC K C ∧ PySem.W.subIn K (.ref C) (.type "ValueError") = some true)
    (hi : ∀ (y : Str) (i : Int), (y, i) ∈ whichAll → ExcT K mg y ∧ PySem.W.subIn K (.ref (xa mg x)) (.ref (xa mg y)) = some (decide (i = j))) (hj : (x, j) ∈ whichAll) : WhichT K mg x j := by
  obtain ⟨C, a, c, v⟩ := h
  have e := xa_of hm a
  refine ⟨by rw [e]; exact c, by rw [e]; exact v, fun y i hy => ?_, ?_⟩
  · have h0 := (hi x j hj).2
    rw [decide_eq_true rfl] at h0
    exact kit_ref (hi y i hy).1 h0 (hi y i hy).2
  · simp only [whichAll, List.mem_cons, Prod.mk.injEq, List.not_mem_nil, or_false] at hj
    rcases hj with h | h | h | h | h | h | h <;> simp [h.2]
abbrev raisedW : W := [114, 97, 105, 115, 101, 100]
abbrev raisedD (j : Int) : D := .tuple [ds raisedW, .int j]
/-- which exception the held one is -/
def spW (K : PySem.W.Frag) (mg : Str → Option Value) : Addr → Value → Option Addr → Sp := fun a cls d vs H Q _ => ∃ (x : Str) (j : Int) (M : List Addr), WhichT K mg x j ∧ cls = .ref (xa mg x) ∧ d = none ∧ vs = [.ref a] ∧ Live M H ∧ ∀ v H', Same H H' → VOk K (hid M H') v (.d (raisedD j)) → Q v H'
section
variable {c : Cz} {ρ : List DV} {ta : TA} {K : PySem.W.Frag} {mg : Str → Option Value} {x : Str} {j : Int} {a : Addr}
theorem ev_which (W : WhichT c.K mg x j) (ha : EvA c ta ρ [.v (.ref a)]) : EvX c (tCallS (spW c.K mg a (.ref (xa mg x)) none) (fun _ => E0) ta) ρ (.d (raisedD j)) := fun H1 σ a Q q => ha H1 σ a _ fun vs H2 s2 o2 => by
  obtain ⟨v, rfl, o⟩ := args1 o2
  obtain rfl : v = V.ref _ := o
  exact ⟨x, j, c.M, W, rfl, rfl, rfl, (a.same s2).lv, fun v H3 s3 o3 => q v H3 (s2.trans s3) o3⟩
theorem rc_isE {D : Addr} {y : Str} {b : Bool} (h : PySem.W.kitOne K (.ref D) (.ref (xa mg y)) = some b) : RCX c (rIsE K D a) [.v (.ref a), .v (.ref (xa mg y))] (.d (.bool b)) := fun H1 g l vs ha Q q => by
  obtain ⟨v, w, rfl, o1, o2⟩ := args2 ha
  obtain rfl : v = V.ref a := o1
  obtain rfl : w = V.ref (xa mg y) := o2
  exact ⟨_, _, b, rfl, fun u r => by cases r; rfl, h, q _ H1 (Same.refl _) (Dq.bl _)⟩
theorem rc_isV {D : Addr} {b : Bool} (h : PySem.W.kitOne K (.ref D) (.type "ValueError") = some b) : RCX c (rIsE K D a) [.v (.ref a), .v (.ty "ValueError")] (.d (.bool b)) := fun H1 g l vs ha Q q => by
  obtain ⟨v, w, rfl, o1, o2⟩ := args2 ha
  obtain rfl : v = V.ref a := o1
  obtain rfl : w = V.ty "ValueError" := o2
  exact ⟨_, _, b, rfl, fun u r => r, h, q _ H1 (Same.refl _) (Dq.bl _)⟩
end
theorem roomH_u {k : Nat} {A : Around} (r : L2H.RoomH k A) : A.units + 65 < cLine := by have := r.un; omega
theorem roomH_u4 {k : Nat} {A : Around} (r : L2H.RoomH k A) : A.units + 64 < cLine := by have := r.un; omega
theorem MtR.k {X : Cx} {K : PySem.W.Frag} {id : String} {r : PySem.W.Frag → V → List V → Hp → VK → Prop} (h : MtR X id (r X.K)) (hK : X.K = K) : MtR X id (r K) := hK ▸ h
theorem cut_init {α : Type} (xs : List α) (k : Nat) (h : 1 ≤ k) : cutL xs none (some (-(k : Int))) = xs.take (xs.length - k) := by
  unfold cutL HT.sIx
  have h' : (-(k : Int)) < 0 := by omega
  simp only [h', if_true, List.drop_zero, Nat.sub_zero]
  congr 1
  omega
theorem cut_last {α : Type} (xs : List α) : cutL xs none (some (-1)) = xs.dropLast := by
  have := cut_init xs 1 (Nat.le_refl _)
  rw [List.dropLast_eq_take]
  exact this
/-! slices of texts by drawn bounds -/
section
variable {c : Cz} {t : Tw} {ρ : List DV} {te : TE} {tl' th : TO} {P : DV → Prop} {K : PySem.W.Frag}
def EvOT (c : Cz) (t : Tw) (to : TO) (ρ : List DV) (P : Option Int → Prop) : Prop := Tn c t → ∀ H1 σ, At c H1 σ ρ → TownAt t H1 → ∀ Q : Option Int → Hp → Prop, (∀ o H2, P o → Gr t.L H1 H2 → TownAt t H2 → Q o H2) → to σ H1 Q
theorem eot_pure {to : TO} {o : Option Int} (h : EvO c to ρ o) : EvOT c t to ρ (· = o) := fun n H1 σ a w Q q => h H1 σ a Q fun H2 s => q o H2 rfl (Same.gr s) (w.same s)
theorem eot_some {Po : Option Int → Prop} (h : EvT c t te ρ fun x => ∃ i, x = .d (.int i) ∧ Po (some i)) : EvOT c t (tPart te) ρ Po := fun n H1 σ a w Q q => h n H1 σ a w _ fun v x H2 p g w2 o => by
  obtain ⟨i, rfl, po⟩ := p
  exact ⟨i, dq_int o, q _ H2 po g w2⟩
theorem et_slS {l : W} {Plo Phi : Option Int → Prop} (h : EvX c te ρ (.d (ds l))) (h1 : EvOT c t tl' ρ Plo) (h2 : EvOT c t th ρ Phi) (hz : Fits l.length) (hs : ∀ lo hi, Plo lo → Phi hi → P (.d (ds (cutL l lo hi)))) : EvT c t (tSl (rSlU K) te tl' th) ρ P := fun n H1 σ a w Q q =>
  h H1 σ a _ fun v H2 s2 o2 => h1 n H2 σ (a.same s2) (w.same s2) _ fun lo H3 p3 g3 w3 => h2 n H3 σ ((a.same s2).gro n g3 w3) w3 _ fun hi H4 p4 g4 w4 =>
    .inr (.inl ⟨sw l, dq_str o2, by rw [sw_len]; exact Nat.le_trans hz (by decide), by
      have e : cutS (sw l) lo hi = sw (cutL l lo hi) := by
        unfold cutS cutL
        rw [sw_len]
      rw [e]; exact q _ _ H4 (hs lo hi p3 p4) ((Same.gr s2).trans (g3.trans g4)) w4 (Dq.str _)⟩)
end
theorem plain_S (s : Sc) : (encS s).plain = true := by
  show PyData.plainAll (s.map encP) = true
  induction s with
  | nil => rfl
  | cons p s ih => show ((encP p).plain && PyData.plainAll (s.map encP)) = true; rw [ih]; rfl
theorem depthAll_S (s : Sc) : PyData.depthAll (s.map encP) ≤ 1 := by
  induction s with
  | nil => exact Nat.zero_le _
  | cons p s ih =>
    show max (encP p).depth (PyData.depthAll (s.map encP)) ≤ 1
    have : (encP p).depth = 1 := rfl
    omega
theorem depth_S (s : Sc) : (encS s).depth ≤ 60 := by
  have := depthAll_S s
  show PyData.depthAll (s.map encP) + 1 ≤ 60
  omega
theorem eqv_S_raised {s : Sc} (h : Scheme s) (j : Int) : PyData.eqv (encS s) (raisedD j) = false := by
  have h1 := h.one
  cases s with
  | nil => simp at h1
  | cons p s => rfl
theorem eqv_W_raised (w : W) (j : Int) : PyData.eqv (ds w) (raisedD j) = false := rfl
theorem pe_cls {X : Cx} {x : Str} {pos : Pos} (T : ExcT X.K X.mg x) (hg : Gl X x := by rfl) (hd : (x == ("__debug__" : Str)) = false := by decide) : PE X (.Name x pos) (tC (.ref (xa X.mg x))) := pe_glob hg T.g rfl hd
theorem pe_fnN {X : Cx} {P : Program} {w : World} {K : PySem.W.Frag} {mg : Str → Option Value} {base : Heap} {CX : CXT} {k : Nat} {x : Str} {ps : List Str} {sp : Sp} {pos : Pos} (F : FnIs P w K mg base CX k x ps sp) (h : X.mg = mg) (hg : Gl X x) (hd : (x == ("__debug__" : Str)) = false) : PE X (.Name x pos) (tC (.ref (xa mg x))) := by
  obtain ⟨f, fd, _, hm, _⟩ := F
  have e : xa mg x = f := by unfold xa; rw [hm]
  rw [e]
  exact pe_glob hg (by rw [h]; exact hm) rfl hd
theorem fnV_of {X : Cx} {P : Program} {w : World} {K : PySem.W.Frag} {mg : Str → Option Value} {base : Heap} {k j : Nat} {x : Str} {ps : List Str} {sp : Sp} (F : FnIs P w K mg base (L2N.CX P w) k x ps sp) (hk : k ≤ j) (hp : X.prog = P) (hw : X.w = w) (hK : X.K = K) (hb : X.base = base) (hm : X.mg = mg) :
    FnV X (L2N.CX X.prog X.w) j (xa mg x, sp) := by
  subst hp hw hK hb hm
  exact F.v hk
/-! several defs told -/
section
variable {X : Cx} {CX : CXT} {k : Nat}
def FnVs (X : Cx) (CX : CXT) (k : Nat) (L : List (Addr × Sp)) : Prop := ∀ c ∈ L, FnV X CX k c
theorem fnV_nil : FnVs X CX k [] := fun _ h => by simp at h
theorem fnV_cons {c : Addr × Sp} {L : List (Addr × Sp)} (h : FnV X CX k c) (r : FnVs X CX k L) : FnVs X CX k (c :: L) := fun e he => by
  rcases List.mem_cons.mp he with rfl | he
  · exact h
  · exact r e he
theorem pe_callVT {pos : Pos} {fe : Expr} {tf : TE} {W : WX} {e : Expr} {es : List Expr} {t : TA} {L : List (Addr × Sp)} (tk : L2N.Takes X W) (hr : Room k X.A) (hf : PE X fe tf) (F : FnVs X (L2N.CX X.prog X.w) k L) (ha : PA X (e :: es) t)
    (hev : eval (.Call fe (e :: es) [] pos) X.env = (do callWith pos (← eval fe X.env) [] (backTo pos (starEach (e :: es) X.env)) (backToKw pos (keywordEach [] X.env))))
    (he : starEach (e :: es) X.env = (false, eval e X.env) :: starEach es X.env) (hpl : (backTo pos (starEach es X.env)).any (·.1) = false) : PE X (.Call fe (e :: es) [] pos) (tCallV L (WE W) tf t) :=
  pe_callV hf F hr (fun σ => L2N.passAt tk σ) ha hev he hpl
end
end TD
set_option Elab.async false
set_option linter.all false
set_option maxRecDepth 100000
set_option maxHeartbeats 400000
/-! Dicts whose keys are tuples of any depth, hidden. -/
namespace TD
open PySem PySem.Spec PyProof.Rows L2 TP
abbrev NK := NestedKey
section
variable {X : Cx} {pins : List (Addr × Obj)} {σ : L2.St} {H : Hp} {s : Shared}
mutual
theorem nested_of (I : Inv X pins σ H s) : ∀ (k : NK) (v : V) (u : Value), Dq H v k.data → RelV v u → NestedIs s.heap k u
  | .none, v, u, h, r => by
    cases h
    obtain rfl : u = Value.none := r
    exact .none
  | .num i, v, u, h, r => by
    cases h
    obtain ⟨t, rfl⟩ := r
    exact .int i t
  | .text x, v, u, h, r => by
    cases h
    obtain ⟨t, rfl⟩ := r
    exact .text x t
  | .tup ks, v, u, h, r => by
    cases h with
    | tup h1 h0 h2 =>
      cases r
      obtain ⟨its, rv, ⟨ob, ho, hcls, n, hdat⟩, _⟩ := I.tuple (.inl (.inr ⟨_, h1⟩))
      exact .tup ho hcls hdat (nesteds_of I ks _ _ h2 rv)
theorem nesteds_of (I : Inv X pins σ H s) : ∀ (ks : List NK) (vs : List V) (us : List Value), DqAll H vs (NestedKey.datas ks) → Vals vs us → NestedAll s.heap ks us
  | [], vs, us, h, r => by
    cases h
    cases r
    exact .nil
  | k :: ks, vs, us, h, r => by
    cases h with
    | cons h1 h2 =>
      cases r with
      | cons r1 r2 => exact .cons (nested_of I k _ _ h1 r1) (nesteds_of I ks _ _ h2 r2)
end
end
/-- a key stands at a -/
def KeyAt (H : Hp) (k : NK) (a : Addr) : Prop := Dq H (.ref a) k.data ∧ k.depth ≤ 8
/-- a dict with the keys told, where they stand, the values -/
def NDO (P : Program) (w : World) (a : Addr) (xs : List (NK × Addr × V)) : HO := .ext fun h => (a == sysModules) = false ∧ ∃ ys : List (NK × Addr × Value), Paired (fun (x : NK × Addr × V) (y : NK × Addr × Value) => x.1 = y.1 ∧ x.2.1 = y.2.1 ∧ RelV x.2.2 y.2.2) xs ys ∧
  ∃ o es ep, h.get? a = some o ∧ o.ExactDict ∧ o.data = .dict es ep ∧ es.toList = ys.map (entryOfKey (nestedKind P w)) ∧ (ys.map (·.1)).Nodup
section
variable {X : Cx} {pins : List (Addr × Obj)} {σ : L2.St} {H : Hp} {s : Shared} {a ka : Addr} {xs : List (NK × Addr × V)} {k : NK} {A : Around} {E : Value → Shared → Prop}
abbrev NRel : List (NK × Addr × V) → List (NK × Addr × Value) → Prop := Paired (fun (x : NK × Addr × V) (y : NK × Addr × Value) => x.1 = y.1 ∧ x.2.1 = y.2.1 ∧ RelV x.2.2 y.2.2)
theorem ndo_at (I : Inv X pins σ H s) (e : H a = some (NDO X.prog X.w a xs)) (hk : ∀ x ∈ xs, KeyAt H x.1 x.2.1) : (a == sysModules) = false ∧ ∃ ys, NRel xs ys ∧ s.heap.DictOfH (nestedKind X.prog X.w) a ys := by
  obtain ⟨⟨hs, ys, r, o, es, ep, h1, h2, h3, h4, h5⟩, hx⟩ := I.hok a _ e
  clear hx
  refine ⟨hs, ys, r, o, es, ep, h1, h2, h3, h4, ?_, h5⟩
  intro y hy
  clear h4 h5 e
  induction r with
  | nil => simp at hy
  | @cons x z _ _ q t ih =>
    rcases List.mem_cons.mp hy with rfl | hy
    · obtain ⟨q1, q2, _⟩ := q
      have := hk x List.mem_cons_self
      rw [← q1, ← q2]
      exact ⟨nested_of I x.1 _ _ this.1 rfl, this.2⟩
    · exact ih (fun x hx => hk x (List.mem_cons_of_mem _ hx)) hy
theorem nrel_at {ys : List (NK × Addr × Value)} (r : NRel xs ys) (k : NK) : (∃ x u, (xs.find? fun x => decide (x.1 = k)) = some x ∧ atKey ys k = some (x.2.1, u) ∧ RelV x.2.2 u) ∨ ((xs.find? fun x => decide (x.1 = k)) = none ∧ atKey ys k = none) := by
  unfold atKey
  induction r with
  | nil => exact .inr ⟨rfl, rfl⟩
  | @cons x y _ _ q t ih =>
    obtain ⟨q1, q2, q3⟩ := q
    rw [List.find?_cons, List.find?_cons, ← q1]
    by_cases e : x.1 = k
    · simp only [e, decide_true]
      exact .inl ⟨x, y.2.2, rfl, by rw [q2]; rfl, q3⟩
    · simp only [e, decide_false]
      exact ih
def nfind (xs : List (NK × Addr × V)) (k : NK) : Option V := (xs.find? fun x => decide (x.1 = k)).map (·.2.2)
theorem nd_room {A : Around} (hu : A.units + 64 < cLine) : (nestedKind X.prog X.w).room A.in1 := by
  show A.units + 1 + 8 < cLine
  omega
/-- k in d -/
def rNIn (P : Program) (w : World) (g : Bool → Bool) : R2 := fun y x H Q => ∃ a ka xs k, x = .ref a ∧ y = .ref ka ∧ H a = some (NDO P w a xs) ∧ (∀ x ∈ xs, KeyAt H x.1 x.2.1) ∧ KeyAt H k ka ∧ Q (.bl (g (nfind xs k).isSome)) H
theorem op_inN (hu : X.A.units + 64 < cLine) : OpR X (compareOp .In) (rNIn X.prog X.w id) := by
  intro pins s σ H y x u v Q I ry rx h
  obtain ⟨a, ka, xs, k, rfl, rfl, e, hk, hka, q⟩ := h
  cases rx
  cases ry
  obtain ⟨hs, ys, r, hd⟩ := ndo_at I e hk
  refine wpAny_in_heap (knd := nestedKind X.prog X.w) (nd_room hu) ⟨nested_of I k _ _ hka.1 rfl, hka.2⟩ hs hd ⟨.bl _, H, I.tok _, rfl, ?_⟩
  rcases nrel_at r k with ⟨x, u, h1, h2, _⟩ | ⟨h1, h2⟩
  · rw [h2]; unfold nfind at q; rw [h1] at q; exact q
  · rw [h2]; unfold nfind at q; rw [h1] at q; exact q
theorem op_notInN (hu : X.A.units + 64 < cLine) : OpR X (compareOp .NotIn) (rNIn X.prog X.w Bool.not) := by
  intro pins s σ H y x u v Q I ry rx h
  obtain ⟨a, ka, xs, k, rfl, rfl, e, hk, hka, q⟩ := h
  cases rx
  cases ry
  obtain ⟨hs, ys, r, hd⟩ := ndo_at I e hk
  refine wpAny_notIn_heap (knd := nestedKind X.prog X.w) (nd_room hu) ⟨nested_of I k _ _ hka.1 rfl, hka.2⟩ hs hd ⟨.bl _, H, I.tok _, rfl, ?_⟩
  rcases nrel_at r k with ⟨x, u, h1, h2, _⟩ | ⟨h1, h2⟩
  · rw [h2]; unfold nfind at q; rw [h1] at q; exact q
  · rw [h2]; unfold nfind at q; rw [h1] at q; exact q
/-- d[k], there -/
def tNGet (P : Program) (w : World) (td ty : TE) : TE := fun σ H Q => td σ H fun x H1 => ty σ H1 fun y H2 => ∃ a ka xs k v, x = .ref a ∧ y = .ref ka ∧ H2 a = some (NDO P w a xs) ∧ (∀ x ∈ xs, KeyAt H2 x.1 x.2.1) ∧ KeyAt H2 k ka ∧ nfind xs k = some v ∧ Q v H2
theorem pe_nget {o i : Expr} {pos : Pos} {td ty : TE} (hu : X.A.units + 64 < cLine) (ho : PE X o td) (hi : PE X i ty) (hs : NoSl i) : PE X (.Subscript o i pos) (tNGet X.prog X.w td ty) := by
  refine ⟨fun pins s σ H Q I h => ?_⟩
  refine subD_of PySem.F.slot_dict_getitem.lookup hs (thn (ho.run pins s σ H _ I h) fun u s1 ⟨x, H1, I1, rx, q1⟩ => thn (hi.run pins s1 σ H1 _ I1 q1) fun iv s2 ⟨y, H2, I2, ry, a, ka, xs, k, v, ex, ey, e, hk, hka, hf, q2⟩ => ?_)
  subst ex ey
  obtain rfl : u = Value.ref a := rx
  obtain rfl : iv = Value.ref ka := ry
  obtain ⟨hs, ys, r, hd⟩ := ndo_at I2 e hk
  refine ⟨hd.typeIs, ?_⟩
  rcases nrel_at r k with ⟨x, u, h1, h2, h3⟩ | ⟨h1, h2⟩
  · refine wpAny_getItem_heap (knd := nestedKind X.prog X.w) (nd_room hu) ⟨nested_of I2 k _ _ hka.1 rfl, hka.2⟩ hd h2 ⟨v, H2, I2.tok _, ?_, q2⟩
    unfold nfind at hf
    rw [h1] at hf
    cases hf
    exact h3
  · unfold nfind at hf
    rw [h1] at hf
    cases hf
/-- d[k] = v, k new -/
def sNPut (P : Program) (w : World) (td ty tv : TE) : TS := fun D σ H => tv σ H fun v H1 => td σ H1 fun x H2 => ty σ H2 fun y H3 => ∃ a ka xs k, x = .ref a ∧ y = .ref ka ∧ H3 a = some (NDO P w a xs) ∧ (∀ x ∈ xs, KeyAt H3 x.1 x.2.1) ∧ KeyAt H3 k ka ∧ nfind xs k = none ∧ xs.length ≤ 2000000 ∧
  D.nx σ (upd H3 a (NDO P w a (xs ++ [(k, ka, v)])))
theorem ndo_stay {P : Program} {w : World} {H : Hp} {h : Heap} {a : Addr} {xs : List (NK × Addr × V)} {ys : List (NK × Addr × Value)} (hs : (a == sysModules) = false) (r : NRel xs ys) (hd : h.DictOfH (nestedKind P w) a ys) : ObjOk P w H h a (NDO P w a xs) := by
  obtain ⟨o, es, ep, h1, h2, h3, h4, _, h5⟩ := hd
  refine ⟨⟨hs, ys, r, o, es, ep, h1, h2, h3, h4, h5⟩, ⟨o, h1⟩, ?_⟩
  rintro g1 g2 ⟨_, ys', r', o', es', ep', k1, k2⟩ hg
  exact ⟨hs, ys', r', o', es', ep', hg _ k1, k2⟩
theorem ps_nput {o i value : Expr} {pos pos' : Pos} {td ty tv : TE} (hu : X.A.units + 64 < cLine) (ho : PE X o td) (hi : PE X i ty) (hv : PE X value tv) (hs : swapsWith value (some (.Subscript o i pos')) pos.line X.env = pure false) :
    PS X (.Assign [.Subscript o i pos'] value pos) (sNPut X.prog X.w td ty tv) := by
  refine ⟨fun pins s σ H D I h => ?_⟩
  refine wpAny_Assign_Subscript (thn (hv.run pins s σ H _ I h) fun r s1 ⟨v, H1, I1, rv, q1⟩ => thn (ho.run pins s1 σ H1 _ I1 q1) fun u s2 ⟨x, H2, I2, rx, q2⟩ => thn (hi.run pins s2 σ H2 _ I2 q2) fun iv s3 ⟨y, H3, I3, ry, a, ka, xs, k, ex, ey, e, hk, hka, hf, hz, q3⟩ => ?_) hs
  subst ex ey
  obtain rfl : u = Value.ref a := rx
  obtain rfl : iv = Value.ref ka := ry
  obtain ⟨hs, ys, rr, hd⟩ := ndo_at I3 e hk
  have hn : atKey ys k = none := by
    rcases nrel_at rr k with ⟨x, u, h1, h2, h3⟩ | ⟨h1, h2⟩
    · unfold nfind at hf; rw [h1] at hf; cases hf
    · exact h2
  have hz' : ys.length ≤ sizeLine := by rw [← Paired.length rr]; exact Nat.le_trans hz (by decide)
  refine wpAny_setItem_heap (knd := nestedKind X.prog X.w) (hsz := hz') (nd_room hu) ⟨nested_of I3 k _ _ hka.1 rfl, hka.2⟩ hd fun h' hd' hsb => ?_
  rw [storedH_new hn] at hd'
  have he : ∃ q, h'.get? a = some q := let ⟨q, _, _, hq, _⟩ := hd'; ⟨q, hq⟩
  refine ⟨σ, _, d_write I3 (by rw [e]; exact True.intro) hsb he (ndo_stay hs ?_ hd'), q3⟩
  have app : ∀ {l : List (NK × Addr × V)} {m : List (NK × Addr × Value)}, NRel l m → NRel (l ++ [(k, ka, v)]) (m ++ [(k, ka, r)]) := fun {l m} q => by
    induction q with
    | nil => exact .cons ⟨rfl, rfl, rv⟩ .nil
    | cons q _ ih => exact .cons q ih
  exact app rr
/-- {} -/
def tNNew (P : Program) (w : World) : TE := fun _ H Q => ∀ p, H p = none → Q (.ref p) (upd H p (NDO P w p []))
theorem pe_nnew {pos : Pos} : PE X (.Dict [] [] pos) (tNNew X.prog X.w) := ⟨fun pins s σ H Q I h => by
  have hb : (s.heap.objs.size == sysModules) = false := beq_eq_false_iff_ne.mpr (Ne.symm (Nat.ne_of_lt I.big))
  refine wpAny_Dict_empty ⟨.ref s.heap.objs.size, _, I.laid (a := s.heap.objs.size) (o := NDO X.prog X.w s.heap.objs.size []) (t' := s.toks) (fun _ _ q => Heap.get?_push_of_some _ q) (Nat.le_refl _) (ndo_stay (ys := []) hb .nil (Heap.DictOfH.new s.heap)), rfl, h _ (I.hok.fresh (Nat.le_refl _))⟩⟩
end
/-! ### as data -/
/-- a hidden dict -/
def MN (P : Program) (w : World) (M : List Addr) (H : Hp) (p : Addr) (kvs : List (NK × D)) : Prop := p ∈ M ∧ ∃ xs, H p = some (NDO P w p xs) ∧ Paired (fun (x : NK × Addr × V) (y : NK × D) => x.1 = y.1 ∧ KeyAt (hid M H) x.1 x.2.1 ∧ Dq (hid M H) x.2.2 y.2) xs kvs
theorem KeyAt.mono {H H' : Hp} {k : NK} {a : Addr} (h : KeyAt H k a) (s : Same H H') : KeyAt H' k a := ⟨dq_mono s _ _ h.1, h.2⟩
theorem KeyAt.up {M : List Addr} {H : Hp} {k : NK} {a : Addr} (h : KeyAt (hid M H) k a) : KeyAt H k a := h.mono hid_le
def nget (kvs : List (NK × D)) (k : NK) : Option D := (kvs.find? fun kv => decide (kv.1 = k)).map (·.2)
section
variable {P : Program} {w : World} {M : List Addr} {H H' : Hp} {p : Addr} {kvs : List (NK × D)}
abbrev NPair (H : Hp) : List (NK × Addr × V) → List (NK × D) → Prop := Paired (fun (x : NK × Addr × V) (y : NK × D) => x.1 = y.1 ∧ KeyAt H x.1 x.2.1 ∧ Dq H x.2.2 y.2)
theorem NPair.mono {H H' : Hp} {xs : List (NK × Addr × V)} {kvs : List (NK × D)} (s : Same H H') (h : NPair H xs kvs) : NPair H' xs kvs := L2.Paired.mapP h fun _ _ ⟨a, b, c⟩ => ⟨a, b.mono s, dq_mono s _ _ c⟩
theorem MN.same (h : MN P w M H p kvs) (s : Same H H') : MN P w M H' p kvs := ⟨h.1, let ⟨xs, a, b⟩ := h.2; ⟨xs, s _ _ a, NPair.mono (Same.hid s) b⟩⟩
/-- other hidden things changed -/
theorem MN.gr {T : List Addr} (h : MN P w M H p kvs) (g : Gr T H H') (s : ∀ b ∈ T, b ∈ M) (n : p ∉ T) : MN P w M H' p kvs := ⟨h.1, let ⟨xs, a, b⟩ := h.2; ⟨xs, g _ _ n a, NPair.mono (Gr.hid g s) b⟩⟩
theorem MN.less {M' : List Addr} (h : MN P w M H p kvs) (hs : ∀ m ∈ M', m ∈ M) (hp : p ∈ M') : MN P w M' H p kvs := ⟨hp, let ⟨xs, a, b⟩ := h.2; ⟨xs, a, NPair.mono (hid_less hs) b⟩⟩
theorem NPair.keys {H : Hp} {xs : List (NK × Addr × V)} {kvs : List (NK × D)} (h : NPair H xs kvs) : ∀ x ∈ xs, KeyAt H x.1 x.2.1 := by
  induction h with
  | nil => intro x hx; simp at hx
  | cons q _ ih =>
    intro x hx
    rcases List.mem_cons.mp hx with rfl | hx
    · exact q.2.1
    · exact ih x hx
theorem NPair.find {H : Hp} {xs : List (NK × Addr × V)} {kvs : List (NK × D)} (h : NPair H xs kvs) (k : NK) : (∃ v d, nfind xs k = some v ∧ nget kvs k = some d ∧ Dq H v d) ∨ (nfind xs k = none ∧ nget kvs k = none) := by
  unfold nfind nget
  induction h with
  | nil => exact .inr ⟨rfl, rfl⟩
  | @cons x y _ _ q t ih =>
    obtain ⟨q1, q2, q3⟩ := q
    rw [List.find?_cons, List.find?_cons, ← q1]
    by_cases e : x.1 = k
    · simp only [e, decide_true]
      exact .inl ⟨_, _, rfl, rfl, q3⟩
    · simp only [e, decide_false]
      exact ih
theorem NPair.app {H : Hp} {xs : List (NK × Addr × V)} {kvs : List (NK × D)} {x : NK × Addr × V} {y : NK × D} (h : NPair H xs kvs) (q : x.1 = y.1 ∧ KeyAt H x.1 x.2.1 ∧ Dq H x.2.2 y.2) : NPair H (xs ++ [x]) (kvs ++ [y]) := by
  induction h with
  | nil => exact .cons q .nil
  | cons q _ ih => exact .cons q ih
end
section
variable {P : Program} {w : World} {c : Cz} {ρ : List DV} {ta tb td ty tv : TE} {p : Addr} {kvs : List (NK × D)} {k : NK} {v : D}
theorem key_ref {H : Hp} {ks : List NK} {u : V} (h : Dq H u (NestedKey.tup ks).data) : ∃ ka, u = V.ref ka := by
  cases h with
  | tup h1 _ _ => exact ⟨_, rfl⟩
variable {ks : List NK}
theorem rx_inN {g : Bool → Bool} {y : D} (m : MN P w c.M c.H p kvs) (hT : c.T = []) (e : y = (NestedKey.tup ks).data) (h8 : (NestedKey.tup ks).depth ≤ 8) : RX c (rNIn P w g) (.d y) (.v (.ref p)) (.d (.bool (g (nget kvs (.tup ks)).isSome))) := fun H1 gr lv u x hu hx Q q => by
  subst e
  obtain rfl : x = V.ref p := hx
  rw [hT] at gr
  obtain ⟨_, xs, e, np⟩ := m.same (Gr.same gr)
  obtain ⟨ka, rfl⟩ := key_ref hu
  refine ⟨p, ka, xs, .tup ks, rfl, rfl, e, fun x hx => (NPair.keys np x hx).up, ⟨dq_up _ _ hu, h8⟩, ?_⟩
  rcases NPair.find np (.tup ks) with ⟨v, d, h1, h2, h3⟩ | ⟨h1, h2⟩
  · rw [h1]; rw [h2] at q; exact q _ H1 (Same.refl _) (Dq.bl _)
  · rw [h1]; rw [h2] at q; exact q _ H1 (Same.refl _) (Dq.bl _)
theorem ev_nget {y : D} (m : MN P w c.M c.H p kvs) (hT : c.T = []) (ha : EvX c td ρ (.v (.ref p))) (hb : EvX c ty ρ (.d y)) (e : y = (NestedKey.tup ks).data) (h8 : (NestedKey.tup ks).depth ≤ 8) (hg : nget kvs (.tup ks) = some v) : EvX c (tNGet P w td ty) ρ (.d v) := fun H1 σ a Q q => by
  subst e
  refine ha H1 σ a _ fun x H2 s2 o2 => hb H2 σ (a.same s2) _ fun u H3 s3 o3 => ?_
  obtain rfl : x = V.ref p := o2
  have gr := ((a.same s2).same s3).gr
  rw [hT] at gr
  obtain ⟨_, xs, e, np⟩ := m.same (Gr.same gr)
  obtain ⟨ka, rfl⟩ := key_ref o3
  rcases NPair.find np (.tup ks) with ⟨v', d, h1, h2, h3⟩ | ⟨h1, h2⟩
  · rw [hg] at h2
    cases h2
    exact ⟨p, ka, xs, .tup ks, v', rfl, rfl, e, fun x hx => (NPair.keys np x hx).up, ⟨dq_up _ _ o3, h8⟩, h1, q _ H3 (s2.trans s3) h3⟩
  · rw [hg] at h2; cases h2
end
section
variable {P : Program} {w : World} {K : PySem.W.Frag} {M : List Addr} {H : Hp} {σ : L2.St} {ρ : List DV} {p : Addr} {kvs : List (NK × D)} {ks : List NK} {v y : D} {D : Ends} {td ty tv : TE} {tz : TS} {i : Nat}
/-- d[k] = v, k new -/
theorem s_nput (s : Sta K M H σ ρ) (m : MN P w M H p kvs) (hv : EvX (cz K M H) tv ρ (.d v)) (ho : EvX (cz K M H) td ρ (.v (.ref p))) (hk : EvX (cz K M H) ty ρ (.d y)) (e : y = (NestedKey.tup ks).data) (h8 : (NestedKey.tup ks).depth ≤ 8) (hn : nget kvs (.tup ks) = none) (hz : kvs.length ≤ 2000000)
    (k : ∀ H', Same (hid M H) (hid M H') → Gr [p] H H' → Sta K M H' σ ρ → MN P w M H' p (kvs ++ [(.tup ks, v)]) → D.nx σ H') : sNPut P w td ty tv D σ H := by
  subst e
  refine hv H σ s.at _ fun v1 H1 s1 o1 => ho H1 σ (s.at.same s1) _ fun x H2 s2 o2 => hk H2 σ ((s.at.same s1).same s2) _ fun u H3 s3 o3 => ?_
  obtain rfl : x = V.ref p := o2
  have s13 := s1.trans (s2.trans s3)
  have m3 := m.same s13
  obtain ⟨hp, xs, e, np⟩ := m3
  obtain ⟨ka, rfl⟩ := key_ref o3
  have hn' : nfind xs (.tup ks) = none := by
    rcases NPair.find np (.tup ks) with ⟨v', d, h1, h2, h3⟩ | ⟨h1, h2⟩
    · rw [hn] at h2; cases h2
    · exact h1
  have hl : xs.length = kvs.length := Paired.length np
  have hh : hid M (upd H3 p (NDO P w p (xs ++ [(.tup ks, ka, v1)]))) = hid M H3 := hid_upd_in hp
  refine ⟨p, ka, xs, .tup ks, rfl, rfl, e, fun x hx => (NPair.keys np x hx).up, ⟨dq_up _ _ o3, h8⟩, hn', by omega, k _ ?_ ?_ ?_ ?_⟩
  · rw [hh]; exact Same.hid s13
  · refine (Same.gr s13).trans fun b o nb eb => ?_
    rw [upd_ne (fun z => nb (by rw [z]; exact List.mem_singleton.mpr rfl))]; exact eb
  · exact (s.same s13).write hp
  · refine ⟨hp, _, upd_same, ?_⟩
    rw [hh]
    exact NPair.app np ⟨rfl, ⟨o3, h8⟩, dq_mono (Same.hid (s2.trans s3)) _ _ o1⟩
theorem q_nput (s : Sta K M H σ ρ) (m : MN P w M H p kvs) (hv : EvX (cz K M H) tv ρ (.d v)) (ho : EvX (cz K M H) td ρ (.v (.ref p))) (hk : EvX (cz K M H) ty ρ (.d y)) (e : y = (NestedKey.tup ks).data) (h8 : (NestedKey.tup ks).depth ≤ 8) (hn : nget kvs (.tup ks) = none) (hz : kvs.length ≤ 2000000)
    (k : ∀ H', Same (hid M H) (hid M H') → Gr [p] H H' → Sta K M H' σ ρ → MN P w M H' p (kvs ++ [(.tup ks, v)]) → tz D σ H') : tSeq (sNPut P w td ty tv) tz D σ H := s_nput (D := { D with nx := tz D }) s m hv ho hk e h8 hn hz k
/-- x = {} -/
theorem mn_new {M : List Addr} {H : Hp} (hp : H p = none) : MN P w (p :: M) (upd H p (NDO P w p [])) p [] := ⟨List.mem_cons_self, [], upd_same, .nil⟩
theorem q_nnew (s : Sta K M H σ ρ) (k : ∀ p σ' H', H p = none → p ∉ M → Same (hid M H) (hid (p :: M) H') → Same H H' → Sta K (p :: M) H' σ' (ρ.set i (.v (.ref p))) → MN P w (p :: M) H' p [] → tz D σ' H') : tSeq (tAsg (tNNew P w) (gName i)) tz D σ H := fun p hp => by
  have nm : p ∉ M := s.lv.new hp
  have sn := same_new hp (NDO P w p [])
  have st3 := s.push (o := NDO P w p []) hp
  exact k p _ _ hp nm (hid_new hp sn) sn (st3.set (x := .v (.ref p)) rfl) (mn_new hp)
end
theorem nget_app {kvs : List (NK × D)} {k k' : NK} {v : D} : nget (kvs ++ [(k', v)]) k = (nget kvs k).or (if k' = k then some v else none) := by
  unfold nget
  rw [List.find?_append]
  cases e : kvs.find? fun kv => decide (kv.1 = k) with
  | some x => rfl
  | none =>
    by_cases h : k' = k
    · simp [h]
    · simp [h]
end TD
set_option Elab.async false
set_option linter.all false
set_option maxRecDepth 100000
set_option maxHeartbeats 400000
/-! Promises of any form; dicts by whole numbers, hidden; least pairs. -/
namespace TD
open PySem PySem.Spec PyProof.Rows L2 TP
section
variable {P : Program} {w : World} {K : PySem.W.Frag} {mg : Str → Option Value} {base : Heap}
/-- the rule for a def, its promise as it stands -/
theorem def_okG {x : Str} {st : Stmt} {N ps : List Str} {k : Nat} {sp : Sp} (d : ∃ f, DefAt K x st f) (hmg : ∀ f, PySem.W.nsIn K mainGlobals x = some (some (.ref f)) → mg x = some (.ref f)) (S : FnScope N ps (defScope st))
    (hbind : ∀ (kV doc pm : Value) (an : Option Addr) (cdv ct : Value) (us : List Value), us.length = ps.length → bindArgs (PySem.W.fnOf x x (defArgs st) (defBody st) (defScope st) .none kV doc pm an cdv ct) ⟨us, []⟩ = pure (ps.zip us))
    (len : ∀ vs H Q E, sp vs H Q E → vs.length = ps.length)
    (body : ∀ (f : Addr) (cdv : Value) (A : Around) (outer : List PySem.Env) (s : Shared) (H : Hp) (vs : List V) (Q : VK) (E : XK), Room k (A.deeper (envOfC x (defScope st) s.heap.objs.size f cdv)) → sp vs H Q E →
      ∃ t, PSs (cxOf (L2N.CX P w) P w K mg base N x (defScope st) f cdv A outer s H E) (defBody st) t ∧ t { nx := fun _ H' => Q .non H', rt := Q } (L2.start N vs) H) :
    FnIs P w K mg base (L2N.CX P w) (k + 1) x ps sp := by
  obtain ⟨f, at_, ⟨oc, od, kV, doc, pm, an, cdv, ct, osl, lk, cd⟩, kp⟩ := d
  have F := fun_mk (st := st) lk cd kp
  exact ⟨f, _, okXN F S len fun cdv A outer s H vs Q E hr h => body f cdv A outer s H vs Q E hr h, hmg f at_, kp, F.binds hbind⟩
end
/-! ### dicts of whole numbers and texts, hidden -/
theorem kv_of {H : Hp} {v : V} {k : Key} (h : Dq H v (keyD k)) : v = kV k := by
  cases k with
  | inl i => exact dq_int h
  | inr x => exact dq_str h
section
variable {K : PySem.W.Frag} {M : List Addr} {H H' : Hp} {σ : L2.St} {ρ : List DV} {D : Ends} {te td ty tx : TE} {tz : TS} {i j l : Nat} {p : Addr} {kvs : List (Key × PyData)} {kk : Key} {y : PyData}
theorem MK.gr {T : List Addr} (h : MK M H p kvs) (g : Gr T H H') (s : ∀ b ∈ T, b ∈ M) (n : p ∉ T) : MK M H' p kvs := ⟨h.1, let ⟨vs, a, b⟩ := h.2; ⟨vs, g _ _ n a, b.mono (Gr.hid g s)⟩⟩
theorem ML.gr {T : List Addr} {xs : List PyData} (h : ML M H p xs) (g : Gr T H H') (s : ∀ b ∈ T, b ∈ M) (n : p ∉ T) : ML M H' p xs := ⟨h.1, let ⟨vs, a, b⟩ := h.2; ⟨vs, g _ _ n a, dqAll_mono (Gr.hid g s) _ _ b⟩⟩
theorem MK.more {q : Addr} (h : MK M H p kvs) (hq : Same (hid M H) (hid (q :: M) H')) (s : Same H H') : MK (q :: M) H' p kvs := ⟨List.mem_cons_of_mem _ h.1, let ⟨vs, a, b⟩ := h.2; ⟨vs, s _ _ a, b.mono hq⟩⟩
theorem ML.more {q : Addr} {xs : List PyData} (h : ML M H p xs) (hq : Same (hid M H) (hid (q :: M) H')) (s : Same H H') : ML (q :: M) H' p xs := ⟨List.mem_cons_of_mem _ h.1, let ⟨vs, a, b⟩ := h.2; ⟨vs, s _ _ a, dqAll_mono hq _ _ b⟩⟩
theorem MK.less {M' : List Addr} (h : MK M H p kvs) (hs : ∀ m ∈ M', m ∈ M) (hp : p ∈ M') : MK M' H p kvs := ⟨hp, let ⟨xs, a, b⟩ := h.2; ⟨xs, a, b.mono (hid_less hs)⟩⟩
theorem ML.less {M' : List Addr} {xs : List PyData} (h : ML M H p xs) (hs : ∀ m ∈ M', m ∈ M) (hp : p ∈ M') : ML M' H p xs := ⟨hp, let ⟨vs, a, b⟩ := h.2; ⟨vs, a, dqAll_mono (hid_less hs) _ _ b⟩⟩
/-- p[k] = e -/
theorem s_dputK (s : Sta K M H σ ρ) (m : MK M H p kvs) (ho : EvX (cz K M H) td ρ (.v (.ref p))) (he : EvX (cz K M H) ty ρ (.d (keyD kk))) (hf : EvX (cz K M H) tx ρ (.d y)) (hz : kvs.length ≤ 1000000)
    (k : ∀ H', Same (hid M H) (hid M H') → Gr [p] H H' → Sta K M H' σ ρ → MK M H' p (kput kvs kk y) → D.nx σ H') : sDPut td ty tx D σ H :=
  hf H σ s.at _ fun w H2 s2 o2 => ho H2 σ (s.at.same s2) _ fun v H3 s3 o3 => he H3 σ ((s.at.same s2).same s3) _ fun u H4 s4 o4 => by
    obtain rfl : v = V.ref p := o3
    have m4 := ((m.same s2).same s3).same s4
    obtain ⟨mp, kv, a4, b4⟩ := m4
    have hl : kv.length ≤ 1000000 := by rw [Paired.length b4]; exact hz
    have ek := kv_of o4
    subst ek
    refine ⟨p, _, rfl, DPut.k (k := kk) a4 (Nat.lt_of_le_of_lt hl (by decide)), ?_⟩
    have e : hid M (upd H4 p (.dK (putK kv kk w))) = hid M H4 := hid_upd_in mp
    refine k _ (by rw [e]; exact Same.hid (s2.trans (s3.trans s4))) (fun b o n eb => ?_) ((((s.same s2).same s3).same s4).write mp) ⟨mp, _, upd_same, by rw [e]; exact kd_put b4 _ (dq_mono (Same.hid (s3.trans s4)) _ _ o2)⟩
    rw [upd_ne (by simpa using n)]; exact s4 _ _ (s3 _ _ (s2 _ _ eb))
theorem q_dputK (s : Sta K M H σ ρ) (m : MK M H p kvs) (ho : EvX (cz K M H) td ρ (.v (.ref p))) (he : EvX (cz K M H) ty ρ (.d (keyD kk))) (hf : EvX (cz K M H) tx ρ (.d y)) (hz : kvs.length ≤ 1000000)
    (k : ∀ H', Same (hid M H) (hid M H') → Gr [p] H H' → Sta K M H' σ ρ → MK M H' p (kput kvs kk y) → tz D σ H') : tSeq (sDPut td ty tx) tz D σ H := s_dputK (D := { D with nx := tz D }) s m ho he hf hz k
/-- x = {k: e} -/
theorem q_disp1 {tk tv : TE} (s : Sta K M H σ ρ) (hk : ∀ (M : List Addr) (H : Hp), EvX (cz K M H) tk ρ (.d (keyD kk))) (hv : ∀ (M : List Addr) (H : Hp), EvX (cz K M H) tv ρ (.d y))
    (k : ∀ p σ' H', H p = none → p ∉ M → Same (hid M H) (hid (p :: M) H') → Same H H' → Sta K (p :: M) H' σ' (ρ.set i (.v (.ref p))) → MK (p :: M) H' p [(kk, y)] → tz D σ' H') : tSeq (tAsg (tDisp [(tk, tv)]) (gName i)) tz D σ H := fun p hp => by
  have nm : p ∉ M := s.lv.new hp
  have sn := same_new hp (HO.dK [])
  have st := s.push (o := .dK []) hp
  refine hk _ _ _ σ st.at _ fun u H2 s2 o2 => hv _ _ H2 σ (st.same s2).at _ fun v H3 s3 o3 => ?_
  have ek := kv_of o2
  subst ek
  have e3 : H3 p = some (.dK []) := s3 _ _ (s2 _ _ upd_same)
  refine ⟨e3, [(kk, v)], rfl, by show 1 ≤ 15; decide, ?_⟩
  have s13 := sn.trans (s2.trans s3)
  have st4 := ((st.same s2).same s3).write (o := .dK (mergeK [] [(kk, v)])) List.mem_cons_self
  have eh : hid (p :: M) (upd H3 p (.dK (mergeK [] [(kk, v)]))) = hid (p :: M) H3 := hid_upd_in List.mem_cons_self
  refine k p _ _ hp nm (by rw [eh]; exact hid_new hp s13) (fun b o eb => ?_) (st4.set (x := .v (.ref p)) rfl) ⟨List.mem_cons_self, [(kk, v)], upd_same, by rw [eh]; exact .cons ⟨rfl, o3⟩ .nil⟩
  rw [upd_ne (ne_of_none eb hp)]
  exact s13 _ _ eb
/-- x, y = {}, {} by data -/
theorem q_par2N {P : Program} {w : World} (s : Sta K M H σ ρ) (k : ∀ p q σ' H', H p = none → H q = none → p ∉ M → q ∉ M → p ≠ q → Same (hid M H) (hid (q :: p :: M) H') → Same H H' → Sta K (q :: p :: M) H' σ' ((ρ.set i (.v (.ref p))).set j (.v (.ref q))) → MN P w (q :: p :: M) H' p [] → MN P w (q :: p :: M) H' q [] → tz D σ' H') :
    tSeq (tPar i j (tCons (tNNew P w) (tCons (tNNew P w) tNil))) tz D σ H := fun p hp q hq => by
  have nm : p ∉ M := s.lv.new hp
  have sn := same_new hp (NDO P w p [])
  have st := s.push (o := NDO P w p []) hp
  have nq : q ∉ p :: M := st.lv.new hq
  have sn2 := same_new hq (NDO P w q [])
  have st2 := st.push (o := NDO P w q []) hq
  have hq0 : H q = none := by
    cases e : H q with
    | none => rfl
    | some o => rw [sn _ _ e] at hq; cases hq
  have hpq : p ≠ q := fun e => nq (by rw [e]; exact List.mem_cons_self)
  refine ⟨_, _, rfl, k p q _ _ hp hq0 nm (fun z => nq (List.mem_cons_of_mem _ z)) hpq ((hid_new hp sn).trans (hid_new hq sn2)) (sn.trans sn2) ((st2.set (x := .v (.ref p)) rfl).set (x := .v (.ref q)) rfl) ?_ (mn_new hq)⟩
  exact ⟨List.mem_cons_of_mem _ List.mem_cons_self, [], by rw [upd_ne hpq]; exact upd_same, .nil⟩
/-- a, b, c = f(..) where a tuple of three is handed back -/
theorem asg3 {K' : PySem.W.Frag} {v a b c : V} {q : Addr} {o : Obj} (e : v = .ref q) (h : H q = some (.frz o (.tup [a, b, c]))) (k : tz D (((σ.set i (some a)).set j (some b)).set l (some c)) H) :
    gTup K' 3 (gCons (gName i) (gCons (gName j) (gCons (gName l) gNil))) v σ H (tz D) := ⟨q, _, e, .inl (.inr ⟨o, h⟩), rfl, _, _, rfl, _, _, rfl, _, _, rfl, rfl, k⟩
/-- return a, b, c of data and two hidden things -/
theorem s_ret3 {x : PyData} {q r : Addr} (s : Sta K M H σ ρ) (h1 : ρ[i]? = some (.d x)) (h2 : ρ[j]? = some (.v (.ref q))) (h3 : ρ[l]? = some (.v (.ref r)))
    (k : ∀ p o u, H p = none → o.dict = none → Dq (hid M H) u x → D.rt (.ref p) (upd H p (.frz o (.tup [u, .ref q, .ref r])))) : tRet (tTupF (tCons (tVar i) (tCons (tVar j) (tCons (tVar l) tNil)))) D σ H := by
  obtain ⟨u, e1, o1⟩ := s.env.get h1 (by intro z; cases z)
  obtain ⟨v, e2, o2⟩ := s.env.get h2 (by intro z; cases z)
  obtain ⟨t, e3, o3⟩ := s.env.get h3 (by intro z; cases z)
  obtain rfl : v = V.ref q := o2
  obtain rfl : t = V.ref r := o3
  exact ⟨u, e1, _, e2, _, e3, by show 3 ≤ _; decide, fun p o hp ho => k p o u hp ho o1⟩
end
section
variable {c : Cz} {ρ : List DV} {ta tb : TE} {p : Addr} {kvs : List (Key × PyData)} {kk : Key} {v : PyData} {K : PySem.W.Frag}
theorem rx_inMK {g : Bool → Bool} (m : MK c.M c.H p kvs) (hT : c.T = []) : RX c (rInU g) (.d (keyD kk)) (.v (.ref p)) (.d (.bool (g (kget kvs kk).isSome))) := fun H1 gr lv u x hu hx Q q => by
  obtain rfl : x = V.ref p := hx
  rw [hT] at gr
  obtain ⟨_, kv, a, b⟩ := m.same (Gr.same gr)
  have e := kv_of hu
  subst e
  refine .inr (.inr ⟨p, _, rfl, DGet.k (k := kk) a, ?_⟩)
  rcases kd_get b kk with ⟨v1, d1, e1, e2, e3⟩ | ⟨e1, e2⟩
  · rw [e1]; rw [e2] at q; exact q _ H1 (Same.refl _) (Dq.bl _)
  · rw [e1]; rw [e2] at q; exact q _ H1 (Same.refl _) (Dq.bl _)
theorem ev_subMK (m : MK c.M c.H p kvs) (hT : c.T = []) (ha : EvX c ta ρ (.v (.ref p))) (hb : EvX c tb ρ (.d (keyD kk))) (hg : kget kvs kk = some v) : EvX c (tSub K ta tb) ρ (.d v) := fun H1 σ a Q q => by
  refine .inr (ha H1 σ a _ fun x H2 s2 o2 => hb H2 σ (a.same s2) _ fun u H3 s3 o3 => ?_)
  obtain rfl : x = V.ref p := o2
  have gr := ((a.same s2).same s3).gr
  rw [hT] at gr
  obtain ⟨_, kv, e, b⟩ := m.same (Gr.same gr)
  have ek := kv_of o3
  subst ek
  rcases kd_get b kk with ⟨v1, d1, e1, e2, e3⟩ | ⟨e1, e2⟩
  · rw [hg] at e2
    cases e2
    exact ⟨p, v1, rfl, by rw [← e1]; exact DGet.k (k := kk) e, q _ H3 (s2.trans s3) e3⟩
  · rw [hg] at e2; cases e2
/-! the least pair -/
def minL (x : Nat × W) (ys : List (Nat × W)) : Nat × W := ys.foldl (fun a y => if ltL y a = true then y else a) x
theorem minD_L (x : Nat × W) (ys : List (Nat × W)) : PySem.W.minD (encL x) (ys.map encL) = encL (minL x ys) := by
  unfold PySem.W.minD minL
  induction ys generalizing x with
  | nil => rfl
  | cons y ys ih =>
    rw [List.map_cons, List.foldl_cons, List.foldl_cons, dataLt_L]
    by_cases h : ltL y x = true
    · rw [if_pos h, if_pos h]; exact ih y
    · rw [if_neg h, if_neg h]; exact ih x
theorem rc_minL {x : Nat × W} {ys : List (Nat × W)} : RCX c (rExQ PySem.W.minD) [.d (.list ((x :: ys).map encL))] (.d (encL (minL x ys))) := by
  have := rc_ex (c := c) (f := PySem.W.minD) (x := encL x) (ys := ys.map encL) (alike_L (x :: ys)) (by have := depth_L (x :: ys); rw [List.map_cons] at this; omega)
  rw [minD_L] at this; exact this
end
/-! rules where the written part and the world are told by name -/
section
variable {X : Cx} {P : Program} {w : World} {o i : Expr} {pos : Pos} {td ty : TE}
theorem k_nget (hP : X.prog = P) (hw : X.w = w) (hu : X.A.units + 64 < cLine) (ho : PE X o td) (hi : PE X i ty) (hs : NoSl i) : PE X (.Subscript o i pos) (tNGet P w td ty) := by
  subst hP hw; exact pe_nget hu ho hi hs
theorem k_inN (hP : X.prog = P) (hw : X.w = w) (hu : X.A.units + 64 < cLine) : OpR X (compareOp .In) (rNIn P w id) := by
  subst hP hw; exact op_inN hu
theorem k_notInN (hP : X.prog = P) (hw : X.w = w) (hu : X.A.units + 64 < cLine) : OpR X (compareOp .NotIn) (rNIn P w Bool.not) := by
  subst hP hw; exact op_notInN hu
theorem k_nnew (hP : X.prog = P) (hw : X.w = w) : PE X (.Dict [] [] pos) (tNNew P w) := by
  subst hP hw; exact pe_nnew
theorem ks_nput {value : Expr} {pos' : Pos} {tv : TE} (hP : X.prog = P) (hw : X.w = w) (hu : X.A.units + 64 < cLine) (ho : PE X o td) (hi : PE X i ty) (hv : PE X value tv) (hs : swapsWith value (some (.Subscript o i pos')) pos.line X.env = pure false) :
    PS X (.Assign [.Subscript o i pos'] value pos) (sNPut P w td ty tv) := by
  subst hP hw; exact ps_nput hu ho hi hv hs
end
end TD
set_option Elab.async false
set_option linter.all false
set_option maxRecDepth 100000
set_option maxHeartbeats 400000
/-! Words for a text: sequences of entries, what is blocked, the first fifty. -/
namespace TP
open TD
/-! ascending lists of what is in a list -/
def nub : List W → List W
  | [] => []
  | x :: r => if x ∈ r then nub r else x :: nub r
theorem mem_nub {x : W} : ∀ {l : List W}, x ∈ nub l ↔ x ∈ l
  | [] => Iff.rfl
  | y :: r => by
    unfold nub
    split
    · rename_i h
      rw [mem_nub, List.mem_cons]
      exact ⟨.inr, fun z => z.elim (fun e => e ▸ h) id⟩
    · rw [List.mem_cons, List.mem_cons, mem_nub]
theorem nub_nodup : ∀ l : List W, (nub l).Nodup
  | [] => List.nodup_nil
  | y :: r => by
    unfold nub
    split
    · exact nub_nodup r
    · rename_i h
      exact List.nodup_cons.mpr ⟨fun z => h (mem_nub.mp z), nub_nodup r⟩
theorem nub_len : ∀ l : List W, (nub l).length ≤ l.length
  | [] => Nat.le_refl _
  | y :: r => by
    unfold nub
    have := nub_len r
    split
    · simp; omega
    · simp; omega
def ascSet (l : List W) : List W := sortW (nub l)
theorem mem_ascSet {x : W} {l : List W} : x ∈ ascSet l ↔ x ∈ l := by
  unfold ascSet
  rw [(sortW_perm _).mem_iff, mem_nub]
theorem ascSet_nodup (l : List W) : (ascSet l).Nodup := (sortW_perm _).nodup_iff.mpr (nub_nodup l)
theorem ascSet_lt (l : List W) : (ascSet l).Pairwise (· < ·) := by
  have h1 := sortW_sorted (nub l)
  have h2 := ascSet_nodup l
  exact (h1.and h2).imp fun {a b} ⟨u, v⟩ => by
    rcases List.le_iff_lt_or_eq.mp u with h | h
    · exact h
    · exact absurd h v
/-! what is blocked -/
def afterL (s : Sc) (B : List W) (a : W) : List W :=
  ((B.filter fun b => decide (a.length < b.length) && starts b a).map fun b => b.drop a.length) ++
    ((s.filter fun p => decide (a.length < p.1.length) && starts p.1 a).map fun p => p.1.drop a.length)
def after (s : Sc) (B : List W) (a : W) : List W := ascSet (afterL s B a)
def allowed (B : List W) (a : W) : Bool := !B.any fun b => starts a b
theorem starts_iff' {a b : W} : starts a b = true ↔ b <+: a := by unfold starts; rw [List.isPrefixOf_iff_prefix]
theorem allowed_iff {B : List W} {a : W} : allowed B a = true ↔ ∀ b ∈ B, ¬ b <+: a := by
  unfold allowed
  rw [Bool.not_eq_true', List.any_eq_false]
  constructor
  · intro h b hb e; exact h b hb (starts_iff'.mpr e)
  · intro h b hb e; exact h b hb (starts_iff'.mp e)
theorem mem_after {s : Sc} {B : List W} {a x : W} : x ∈ after s B a ↔ x ≠ [] ∧ (a ++ x ∈ B ∨ a ++ x ∈ s.map (·.1)) := by
  unfold after afterL
  rw [mem_ascSet, List.mem_append, List.mem_map, List.mem_map]
  have key : ∀ b : W, (decide (a.length < b.length) && starts b a) = true ↔ ∃ y, y ≠ [] ∧ b = a ++ y := by
    intro b
    rw [Bool.and_eq_true, decide_eq_true_iff, starts_iff']
    constructor
    · rintro ⟨h, y, rfl⟩
      refine ⟨y, fun e => ?_, rfl⟩
      rw [e] at h; simp at h
    · rintro ⟨y, hy, rfl⟩
      refine ⟨?_, y, rfl⟩
      have := List.length_pos_iff.mpr hy
      rw [List.length_append]; omega
  constructor
  · rintro (⟨b, hb, rfl⟩ | ⟨p, hp, rfl⟩)
    · obtain ⟨h1, h2⟩ := List.mem_filter.mp hb
      obtain ⟨y, hy, rfl⟩ := (key b).mp h2
      rw [List.drop_left]
      exact ⟨hy, .inl h1⟩
    · obtain ⟨h1, h2⟩ := List.mem_filter.mp hp
      obtain ⟨y, hy, e⟩ := (key p.1).mp h2
      rw [e, List.drop_left]
      exact ⟨hy, .inr (e ▸ List.mem_map_of_mem h1)⟩
  · rintro ⟨hx, h | h⟩
    · exact .inl ⟨a ++ x, List.mem_filter.mpr ⟨h, (key _).mpr ⟨x, hx, rfl⟩⟩, List.drop_left⟩
    · obtain ⟨p, hp, e⟩ := List.mem_map.mp h
      exact .inr ⟨p, List.mem_filter.mpr ⟨hp, (key _).mpr ⟨x, hx, e⟩⟩, by rw [e]; exact List.drop_left⟩
/-! sequences of entries -/
def Valid (s : Sc) : List W → List W → Prop
  | _, [] => True
  | B, a :: r => a ∈ s.map (·.1) ∧ (∀ b ∈ B, ¬ b <+: a) ∧ Valid s (after s B a) r
theorem pre_split {b a c : W} (h : b <+: a ++ c) : b <+: a ∨ ∃ x, x ≠ [] ∧ b = a ++ x ∧ x <+: c := by
  rcases Nat.le_total b.length a.length with l | l
  · exact .inl (List.prefix_of_prefix_length_le h (List.prefix_append a c) l)
  · obtain ⟨x, rfl⟩ := List.prefix_of_prefix_length_le (List.prefix_append a c) h l
    by_cases hx : x = []
    · subst hx; exact .inl (by simp)
    · exact .inr ⟨x, hx, rfl, (List.prefix_append_right_inj a).mp h⟩
theorem valid_iff {s : Sc} (h3 : ∀ p ∈ s, 1 ≤ p.1.length ∧ p.1.length ≤ 3) : ∀ {ps B : List W}, (∀ b ∈ B, b ≠ []) → (Valid s B ps ↔ (∀ b ∈ B, ¬ b <+: ps.flatten) ∧ split s ps.flatten = some ps)
  | [], B, hB => by
    constructor
    · exact fun _ => ⟨fun b hb e => hB b hb (List.prefix_nil.mp e), split_nil⟩
    · exact fun _ => trivial
  | a :: r, B, hB => by
    have hA : ∀ b ∈ after s B a, b ≠ [] := fun b hb => (mem_after.mp hb).1
    have ih := valid_iff h3 (ps := r) hA
    have src : ∀ {k : W}, k ∈ s.map (·.1) → 1 ≤ k.length ∧ k.length ≤ 3 := fun {k} hk => by
      obtain ⟨p, hp, rfl⟩ := List.mem_map.mp hk; exact h3 p hp
    show (a ∈ s.map (·.1) ∧ (∀ b ∈ B, ¬ b <+: a) ∧ Valid s (after s B a) r) ↔ _
    rw [ih, List.flatten_cons]
    generalize r.flatten = c
    constructor
    · rintro ⟨ha, hb, hn, hsp⟩
      have la := src ha
      have hne : a ++ c ≠ [] := fun e => by rw [(List.append_eq_nil_iff.mp e).1] at la; simp at la
      have hl : longest s (a ++ c) = some a := by
        refine longest_eq la.1 la.2 ⟨c, rfl⟩ (get_isSome.mpr ha) fun m h1 h2 h4 => ?_
        cases q : get s ((a ++ c).take m) with
        | none => rfl
        | some v =>
          exfalso
          have hk : (a ++ c).take m ∈ s.map (·.1) := get_isSome.mp (by rw [q]; rfl)
          have e : (a ++ c).take m = a ++ c.take (m - a.length) := by
            rw [List.take_append, List.take_of_length_le (by omega)]
          rw [e] at hk
          have hx : c.take (m - a.length) ≠ [] := fun z => by
            have := congrArg List.length e
            rw [z, List.append_nil, List.length_take, List.length_append] at this
            rw [List.length_append] at h4; omega
          exact hn _ (mem_after.mpr ⟨hx, .inr hk⟩) (List.take_prefix _ _)
      refine ⟨fun b hb' e => ?_, ?_⟩
      · rcases pre_split e with e1 | ⟨x, hx, rfl, e1⟩
        · exact hb b hb' e1
        · exact hn x (mem_after.mpr ⟨hx, .inl hb'⟩) e1
      · rw [split_some hne hl, List.drop_left, hsp]; rfl
    · rintro ⟨hb, hsp⟩
      have hne : a ++ c ≠ [] := fun e => by rw [e, split_nil] at hsp; cases hsp
      cases q : longest s (a ++ c) with
      | none => rw [split_none hne q] at hsp; cases hsp
      | some k =>
        rw [split_some hne q] at hsp
        obtain ⟨r', h1, h2⟩ := Option.map_eq_some_iff.mp hsp
        injection h2 with e1 e2
        subst e1 e2
        rw [List.drop_left] at h1
        have l := longest_len q
        refine ⟨get_isSome.mp l.2.2.2.2, fun b hb' e => hb b hb' (e.trans (List.prefix_append _ _)), fun x hx e => ?_, h1⟩
        obtain ⟨hx0, hx | hx⟩ := mem_after.mp hx
        · exact hb _ hx ((List.prefix_append_right_inj k).mpr e)
        · obtain ⟨z, rfl⟩ := e
          have hl := src hx
          have hm := (longestN_top (t := s) (x := k ++ (x ++ z)) (Nat.min_le_right 3 _)).1 k q (k.length + x.length) (by have := List.length_pos_iff.mpr hx0; omega) (by simp at hl ⊢; omega)
          have e2 : (k ++ (x ++ z)).take (k.length + x.length) = k ++ x := by
            rw [← List.append_assoc, List.take_left' (by simp)]
          rw [e2] at hm
          have := get_isSome.mpr hx
          rw [hm] at this; cases this
/-! words in order -/
def leL (a b : W) : Prop := a.length < b.length ∨ (a.length = b.length ∧ a ≤ b)
instance (a b : W) : Decidable (leL a b) := by unfold leL; exact inferInstance
theorem leL_refl (a : W) : leL a a := .inr ⟨rfl, List.le_refl a⟩
theorem leL_total (a b : W) : leL a b ∨ leL b a := by
  rcases Nat.lt_trichotomy a.length b.length with h | h | h
  · exact .inl (.inl h)
  · rcases List.le_total a b with q | q
    · exact .inl (.inr ⟨h, q⟩)
    · exact .inr (.inr ⟨h.symm, q⟩)
  · exact .inr (.inl h)
theorem leL_trans {a b c : W} (h : leL a b) (k : leL b c) : leL a c := by
  rcases h with h | ⟨h, h'⟩ <;> rcases k with k | ⟨k, k'⟩
  · exact .inl (by omega)
  · exact .inl (by omega)
  · exact .inl (by omega)
  · exact .inr ⟨by omega, List.le_trans h' k'⟩
theorem leL_anti {a b : W} (h : leL a b) (k : leL b a) : a = b := by
  rcases h with h | ⟨h, h'⟩ <;> rcases k with k | ⟨k, k'⟩
  · omega
  · omega
  · omega
  · exact List.le_antisymm h' k'
def inOrder (l : List W) : List W := l.mergeSort fun a b => decide (leL a b)
theorem inOrder_perm (l : List W) : (inOrder l).Perm l := List.mergeSort_perm _ _
theorem inOrder_sorted (l : List W) : (inOrder l).Pairwise leL := by
  have := List.pairwise_mergeSort (le := fun (a b : W) => decide (leL a b)) (fun a b c h1 h2 => decide_eq_true (leL_trans (of_decide_eq_true h1) (of_decide_eq_true h2)))
    (fun a b => by
      rcases leL_total a b with h | h
      · rw [decide_eq_true h]; rfl
      · rw [decide_eq_true h, Bool.or_true]) l
  exact this.imp fun h => of_decide_eq_true h
theorem inOrder_uniq {l m : List W} (p : l.Perm m) (s : l.Pairwise leL) : l = inOrder m :=
  List.Perm.eq_of_pairwise (fun a b _ _ h1 h2 => leL_anti h1 h2) s (inOrder_sorted m) (p.trans (inOrder_perm m).symm)
theorem inOrder_congr {l m : List W} (p : l.Perm m) : inOrder l = inOrder m := inOrder_uniq ((inOrder_perm l).trans p) (inOrder_sorted l)
theorem inOrder_same {l m : List W} (hl : l.Nodup) (hm : m.Nodup) (h : ∀ w, w ∈ l ↔ w ∈ m) : inOrder l = inOrder m := inOrder_congr ((List.perm_ext_iff_of_nodup hl hm).mpr h)
/-! the first k -/
def topK (k : Nat) (l : List W) : List W := (inOrder l).take k
theorem topK_congr {k : Nat} {l m : List W} (p : l.Perm m) : topK k l = topK k m := by unfold topK; rw [inOrder_congr p]
def insO (x : W) : List W → List W
  | [] => [x]
  | y :: s => if leL y x then y :: insO x s else x :: y :: s
theorem insO_perm (x : W) : ∀ s : List W, (insO x s).Perm (x :: s)
  | [] => .refl _
  | y :: s => by
    unfold insO
    split
    · exact ((insO_perm x s).cons y).trans (.swap x y s)
    · exact .refl _
theorem insO_sorted (x : W) : ∀ {s : List W}, s.Pairwise leL → (insO x s).Pairwise leL
  | [], _ => List.pairwise_singleton _ _
  | y :: s, h => by
    rw [List.pairwise_cons] at h
    unfold insO
    split
    · rename_i q
      refine List.pairwise_cons.mpr ⟨fun z hz => ?_, insO_sorted x h.2⟩
      rcases List.mem_cons.mp ((insO_perm x s).mem_iff.mp hz) with rfl | hz
      · exact q
      · exact h.1 z hz
    · rename_i q
      have q' := (leL_total y x).resolve_left q
      refine List.pairwise_cons.mpr ⟨fun z hz => ?_, List.pairwise_cons.mpr h⟩
      rcases List.mem_cons.mp hz with rfl | hz
      · exact q'
      · exact leL_trans q' (h.1 z hz)
theorem insO_take (x : W) : ∀ (k : Nat) {s : List W}, k ≤ s.length → (∀ y ∈ s.take k, leL y x) → (insO x s).take k = s.take k
  | 0, _, _, _ => rfl
  | k + 1, [], h, _ => by simp at h
  | k + 1, y :: s, h, q => by
    unfold insO
    rw [if_pos (q y (by simp)), List.take_succ_cons, List.take_succ_cons, insO_take x k (by simp at h; omega) fun z hz => q z (by rw [List.take_succ_cons]; exact List.mem_cons_of_mem _ hz)]
theorem topK_cons {k : Nat} {x : W} {l : List W} (h : k ≤ l.length) (q : ∀ y ∈ topK k l, leL y x) : topK k (x :: l) = topK k l := by
  have e : inOrder (x :: l) = insO x (inOrder l) := (inOrder_uniq ((insO_perm x _).trans ((inOrder_perm l).cons x)) (insO_sorted x (inOrder_sorted l))).symm
  unfold topK
  rw [e]
  exact insO_take x k (by rw [(inOrder_perm l).length_eq]; exact h) q
theorem topK_more {k : Nat} {l : List W} (h : k ≤ l.length) : ∀ {r : List W}, (∀ x ∈ r, ∀ y ∈ topK k l, leL y x) → topK k (r ++ l) = topK k l
  | [], _ => rfl
  | x :: r, q => by
    have ih := topK_more h fun z hz => q z (List.mem_cons_of_mem _ hz)
    show topK k (x :: (r ++ l)) = _
    rw [topK_cons (by rw [List.length_append]; omega) (by rw [ih]; exact q x List.mem_cons_self), ih]
theorem topK_app {k : Nat} (m l : List W) : topK k (m ++ topK k l) = topK k (m ++ l) := by
  have hs : inOrder l = topK k l ++ (inOrder l).drop k := (List.take_append_drop k _).symm
  rcases Nat.lt_or_ge l.length k with h | h
  · have e : topK k l = inOrder l := List.take_of_length_le (by rw [(inOrder_perm l).length_eq]; omega)
    rw [e]
    exact topK_congr ((inOrder_perm l).append_left m)
  · have hk : (topK k l).length = k := by unfold topK; rw [List.length_take, (inOrder_perm l).length_eq]; omega
    have hso := inOrder_sorted l
    rw [hs] at hso
    have hle := (List.pairwise_append.mp hso).2.2
    have p : (m ++ l).Perm ((inOrder l).drop k ++ (m ++ topK k l)) := by
      have p1 : l.Perm (topK k l ++ (inOrder l).drop k) := by rw [← hs]; exact (inOrder_perm l).symm
      refine (p1.append_left m).trans ?_
      rw [← List.append_assoc]
      exact List.perm_append_comm
    rw [topK_congr p]
    refine (topK_more (by rw [List.length_append]; omega) fun r hr y hy => ?_).symm
    have hall : ∀ t ∈ topK k l, leL t r := fun t ht => hle t ht r hr
    generalize hT : topK k l = T at hk hall hy
    clear hs p hso hle hr
    generalize hX : m ++ T = X at hy
    have c1 : k ≤ X.countP fun z => decide (leL z r) := by
      rw [← hX, List.countP_append]
      have : T.countP (fun z => decide (leL z r)) = T.length := List.countP_eq_length.mpr fun t ht => decide_eq_true (hall t ht)
      omega
    have hsX := inOrder_sorted X
    have e := (List.take_append_drop k (inOrder X))
    rw [← e] at hsX
    have hle := (List.pairwise_append.mp hsX).2.2
    by_cases hyr : leL y r
    · exact hyr
    · exfalso
      have c2 : ((inOrder X).drop k).countP (fun z => decide (leL z r)) = 0 := List.countP_eq_zero.mpr fun q hq z => hyr (leL_trans (hle y hy q hq) (of_decide_eq_true z))
      have c3 : X.countP (fun z => decide (leL z r)) = ((inOrder X).take k).countP (fun z => decide (leL z r)) := by
        rw [← (inOrder_perm X).countP_eq, ← e, List.countP_append, c2, Nat.add_zero]
        congr 1
        simp
      have c4 : ((inOrder X).take k).countP (fun z => decide (leL z r)) < ((inOrder X).take k).length := by
        refine Nat.lt_of_le_of_ne List.countP_le_length fun z => ?_
        exact hyr (of_decide_eq_true (List.countP_eq_length.mp z y hy))
      have c5 : ((inOrder X).take k).length ≤ k := by rw [List.length_take]; omega
      omega
theorem topK_top {k : Nat} (l : List W) : topK k (topK k l) = topK k l := topK_app [] l
theorem topK_appL {k : Nat} {m l l' : List W} (h : topK k l = topK k l') : topK k (m ++ l) = topK k (m ++ l') := by rw [← topK_app, h, topK_app]
theorem topK_appR {k : Nat} {m l l' : List W} (h : topK k l = topK k l') : topK k (l ++ m) = topK k (l' ++ m) := by
  rw [topK_congr (List.perm_append_comm (l₁ := l)), topK_congr (List.perm_append_comm (l₁ := l'))]; exact topK_appL h
theorem topK_flat {α : Type} {k : Nat} {A B : α → List W} : ∀ {xs : List α}, (∀ x ∈ xs, topK k (A x) = topK k (B x)) → topK k (xs.flatMap A) = topK k (xs.flatMap B)
  | [], _ => rfl
  | x :: xs, h => by
    rw [List.flatMap_cons, List.flatMap_cons, topK_appR (h x List.mem_cons_self)]
    exact topK_appL (topK_flat fun y hy => h y (List.mem_cons_of_mem _ hy))
theorem cons_le {a b : Nat} {l m : W} : (a :: l : W) ≤ a :: m ↔ l ≤ m := by
  constructor
  · intro h
    rcases List.le_iff_lt_or_eq.mp h with h | h
    · exact List.le_of_lt (by simpa [List.cons_lt_cons_iff] using h)
    · injection h with _ h; rw [h]; exact List.le_refl _
  · intro h
    rcases List.le_iff_lt_or_eq.mp h with h | h
    · exact List.le_of_lt (by simpa [List.cons_lt_cons_iff] using h)
    · rw [h]; exact List.le_refl _
theorem app_le {l m : W} : ∀ {a : W}, a ++ l ≤ a ++ m ↔ l ≤ m
  | [] => Iff.rfl
  | x :: a => (cons_le (b := x)).trans app_le
theorem leL_app {a b c : W} : leL (a ++ b) (a ++ c) ↔ leL b c := by
  unfold leL
  rw [List.length_append, List.length_append, app_le]
  exact or_congr (by omega) (and_congr (by omega) Iff.rfl)
theorem inOrder_map (a : W) (l : List W) : inOrder (l.map (a ++ ·)) = (inOrder l).map (a ++ ·) := by
  refine (inOrder_uniq ((inOrder_perm l).map _) ?_).symm
  rw [List.pairwise_map]
  exact (inOrder_sorted l).imp fun h => leL_app.mpr h
theorem topK_map (k : Nat) (a : W) (l : List W) : topK k (l.map (a ++ ·)) = (topK k l).map (a ++ ·) := by
  unfold topK; rw [inOrder_map, List.map_take]
/-! words for a text -/
def wordsF (s : Sc) : Nat → List W → W → List W
  | 0, _, x => if x = [] then [[]] else []
  | n + 1, B, x => if x = [] then [[]] else topK 50 (s.flatMap fun p => if starts x p.2 && allowed B p.1 then (wordsF s n (after s B p.1) (x.drop p.2.length)).map (p.1 ++ ·) else [])
def allF (s : Sc) : Nat → List W → W → List W
  | 0, _, x => if x = [] then [[]] else []
  | n + 1, B, x => if x = [] then [[]] else s.flatMap fun p => if starts x p.2 && allowed B p.1 then (allF s n (after s B p.1) (x.drop p.2.length)).map (p.1 ++ ·) else []
theorem topK_one (k : Nat) (h : 1 ≤ k) (w : W) : topK k [w] = [w] := by
  unfold topK
  rw [show inOrder [w] = [w] from List.mergeSort_singleton w, List.take_of_length_le (by simpa using h)]
theorem wordsF_all (s : Sc) : ∀ (n : Nat) (B : List W) (x : W), wordsF s n B x = topK 50 (allF s n B x)
  | 0, B, x => by
    unfold wordsF allF
    split
    · exact (topK_one 50 (by decide) _).symm
    · simp [topK, inOrder]
  | n + 1, B, x => by
    unfold wordsF allF
    split
    · exact (topK_one 50 (by decide) _).symm
    · refine topK_flat fun p hp => ?_
      split
      · rw [wordsF_all s n, ← topK_map, topK_top]
      · rfl
theorem mem_allF {s : Sc} (hs : Scheme s) : ∀ (n : Nat) (B : List W) (x : W), x.length ≤ n → ∀ w, w ∈ allF s n B x ↔ ∃ ps, Valid s B ps ∧ ps.flatten = w ∧ (ps.map (val s)).flatten = x := by
  have hval : ∀ p ∈ s, val s p.1 = p.2 := fun p hp => by
    have h1 := get_val (t := s) (k := p.1) (get_isSome.mpr (List.mem_map_of_mem hp))
    have h2 := get_mem h1
    have nd := hs.nodup
    have : ∀ {t : Sc}, (t.map (·.1)).Nodup → ∀ {k a b : W}, (k, a) ∈ t → (k, b) ∈ t → a = b := fun {t} => by
      induction t with
      | nil => intro _ _ _ _ h; simp at h
      | cons q t ih =>
        intro nd k a b h h'
        rw [List.map_cons, List.nodup_cons] at nd
        rcases List.mem_cons.mp h with e | h <;> rcases List.mem_cons.mp h' with e' | h'
        · rw [← e] at e'; injection e' with _ e'; exact e'.symm
        · exact absurd (by rw [← e]; exact List.mem_map.mpr ⟨(k, b), h', rfl⟩) nd.1
        · exact absurd (by rw [← e']; exact List.mem_map.mpr ⟨(k, a), h, rfl⟩) nd.1
        · exact ih nd.2 h h'
    exact this nd h2 hp
  have nilcase : ∀ (B : List W) (w : W), w ∈ ([[]] : List W) ↔ ∃ ps, Valid s B ps ∧ ps.flatten = w ∧ (ps.map (val s)).flatten = [] := fun B w => by
    constructor
    · intro h
      obtain rfl := List.mem_singleton.mp h
      exact ⟨[], trivial, rfl, rfl⟩
    · rintro ⟨ps, hv, rfl, h⟩
      cases ps with
      | nil => simp
      | cons a r =>
        obtain ⟨p, hp, rfl⟩ := List.mem_map.mp hv.1
        have := (hs.tgt1 p hp).1
        rw [List.map_cons, List.flatten_cons, hval p hp] at h
        rw [(List.append_eq_nil_iff.mp h).1] at this
        simp at this
  intro n
  induction n with
  | zero =>
    intro B x hx w
    have : x = [] := List.length_eq_zero_iff.mp (by omega)
    subst this
    exact nilcase B w
  | succ n ih =>
    intro B x hx w
    unfold allF
    split
    · rename_i h; subst h; exact nilcase B w
    · rename_i hne
      rw [List.mem_flatMap]
      constructor
      · rintro ⟨p, hp, h⟩
        split at h
        · rename_i q
          rw [Bool.and_eq_true, allowed_iff] at q
          obtain ⟨y, rfl⟩ := starts_iff.mp q.1
          obtain ⟨u, hu, rfl⟩ := List.mem_map.mp h
          have := (hs.tgt1 p hp).1
          rw [List.drop_left, ih _ _ (by rw [List.length_append] at hx; omega)] at hu
          obtain ⟨ps, h1, rfl, rfl⟩ := hu
          exact ⟨p.1 :: ps, ⟨List.mem_map_of_mem hp, q.2, h1⟩, rfl, by rw [List.map_cons, List.flatten_cons, hval p hp]⟩
        · simp at h
      · rintro ⟨ps, hv, rfl, rfl⟩
        cases ps with
        | nil => exact absurd rfl hne
        | cons a r =>
          obtain ⟨p, hp, rfl⟩ := List.mem_map.mp hv.1
          have := (hs.tgt1 p hp).1
          rw [List.map_cons, List.flatten_cons, hval p hp] at hx ⊢
          refine ⟨p, hp, ?_⟩
          rw [if_pos (by rw [Bool.and_eq_true, allowed_iff]; exact ⟨starts_iff.mpr ⟨_, rfl⟩, hv.2.1⟩), List.drop_left]
          refine List.mem_map_of_mem ((ih _ _ (by rw [List.length_append] at hx; omega) _).mpr ⟨r, hv.2.2, rfl, rfl⟩)
theorem allF_nodup {s : Sc} (hs : Scheme s) : ∀ (n : Nat) (B : List W) (x : W), (∀ b ∈ B, b ≠ []) → x.length ≤ n → (allF s n B x).Nodup := by
  intro n
  induction n with
  | zero =>
    intro B x hB hx
    unfold allF
    split
    · simp
    · simp
  | succ n ih =>
    intro B x hB hx
    unfold allF
    split
    · simp
    · have inner : ∀ p ∈ s, (if starts x p.2 && allowed B p.1 then (allF s n (after s B p.1) (x.drop p.2.length)).map (p.1 ++ ·) else []).Nodup := fun p hp => by
        split
        · rename_i q
          rw [Bool.and_eq_true] at q
          have := (hs.tgt1 p hp).1
          obtain ⟨y, e⟩ := starts_iff.mp q.1
          rw [e, List.length_append] at hx
          refine List.Pairwise.map _ (fun a b h e => h (List.append_cancel_left e)) (ih _ _ (fun b hb => (mem_after.mp hb).1) ?_)
          rw [e, List.drop_left]; omega
        · simp
      have head : ∀ p ∈ s, ∀ w, w ∈ (if starts x p.2 && allowed B p.1 then (allF s n (after s B p.1) (x.drop p.2.length)).map (p.1 ++ ·) else []) → ∃ r, split s w = some (p.1 :: r) := fun p hp w hw => by
        split at hw
        · rename_i q
          rw [Bool.and_eq_true, allowed_iff] at q
          have := (hs.tgt1 p hp).1
          obtain ⟨y, e⟩ := starts_iff.mp q.1
          rw [e, List.length_append] at hx
          obtain ⟨u, hu, rfl⟩ := List.mem_map.mp hw
          rw [e, List.drop_left, mem_allF hs _ _ _ (by omega)] at hu
          obtain ⟨ps, h1, rfl, _⟩ := hu
          have hv : Valid s B (p.1 :: ps) := ⟨List.mem_map_of_mem hp, q.2, h1⟩
          exact ⟨ps, ((valid_iff hs.src1 hB).mp hv).2⟩
        · simp at hw
      have nd : s.Pairwise fun p q => p.1 ≠ q.1 := by
        have := hs.nodup
        rw [List.Nodup, List.pairwise_map] at this
        exact this
      have gen : ∀ {t : Sc}, (∀ p ∈ t, p ∈ s) → (t.Pairwise fun p q => p.1 ≠ q.1) → (t.flatMap fun p => if starts x p.2 && allowed B p.1 then (allF s n (after s B p.1) (x.drop p.2.length)).map (p.1 ++ ·) else []).Nodup := fun {t} => by
        induction t with
        | nil => intro _ _; simp
        | cons p t iht =>
          intro hm hp
          rw [List.pairwise_cons] at hp
          rw [List.flatMap_cons, List.nodup_append]
          refine ⟨inner p (hm p List.mem_cons_self), iht (fun q hq => hm q (List.mem_cons_of_mem _ hq)) hp.2, fun a ha b hb e => ?_⟩
          subst e
          obtain ⟨q, hq, hb⟩ := List.mem_flatMap.mp hb
          obtain ⟨r, h1⟩ := head p (hm p List.mem_cons_self) a ha
          obtain ⟨r', h2⟩ := head q (hm q (List.mem_cons_of_mem _ hq)) a hb
          rw [h1] at h2
          injection h2 with h2
          injection h2 with h2 _
          exact hp.1 q hq h2
      exact gen (fun p hp => hp) nd
/-- what words_for hands back -/
def wordsFor (s : Sc) (x : W) : List W := wordsF s x.length [] x
theorem mem_all0 {s : Sc} (hs : Scheme s) (x w : W) : w ∈ allF s x.length [] x ↔ mapped s w = some x := by
  rw [mem_allF hs _ _ _ (Nat.le_refl _)]
  constructor
  · rintro ⟨ps, hv, rfl, rfl⟩
    have := ((valid_iff hs.src1 (by simp)).mp hv).2
    unfold mapped
    rw [this]; rfl
  · intro h
    unfold mapped at h
    obtain ⟨ps, h1, h2⟩ := Option.map_eq_some_iff.mp h
    have e := (split_len _ (Nat.le_refl _) h1).2
    exact ⟨ps, (valid_iff hs.src1 (by simp)).mpr ⟨by simp, by rw [e]; exact h1⟩, e, h2⟩
theorem wordsFor_eq {s : Sc} (hs : Scheme s) {x : W} {L : List W} (nd : L.Nodup) (h : ∀ w, w ∈ L ↔ mapped s w = some x) : wordsFor s x = (inOrder L).take 50 := by
  unfold wordsFor
  rw [wordsF_all]
  unfold topK
  rw [inOrder_same (allF_nodup hs _ _ _ (by simp) (Nat.le_refl _)) nd fun w => (mem_all0 hs x w).trans (h w).symm]
end TP
set_option Elab.async false
set_option linter.all false
set_option maxRecDepth 100000
set_option maxHeartbeats 400000
/-! The smallest word that is found, words in equal states continued once. -/
namespace TP
open TD
/-- one letter more -/
def cands (ls : W) (q : List W) : List W := q.flatMap fun w => ls.map fun c => w ++ [c]
theorem mem_cands {ls : W} {q : List W} {w : W} : w ∈ cands ls q ↔ ∃ u ∈ q, ∃ c ∈ ls, w = u ++ [c] := by
  unfold cands
  rw [List.mem_flatMap]
  constructor
  · rintro ⟨u, hu, h⟩
    obtain ⟨c, hc, rfl⟩ := List.mem_map.mp h
    exact ⟨u, hu, c, hc, rfl⟩
  · rintro ⟨u, hu, c, hc, rfl⟩
    exact ⟨u, hu, List.mem_map_of_mem hc⟩
theorem app_lt {l m : W} : ∀ {a : W}, a ++ l < a ++ m ↔ l < m
  | [] => Iff.rfl
  | x :: a => by
    rw [List.cons_append, List.cons_append, List.cons_lt_cons_iff]
    constructor
    · rintro (h | ⟨_, h⟩)
      · omega
      · exact app_lt.mp h
    · exact fun h => .inr ⟨rfl, app_lt.mpr h⟩
theorem lt_app {a b : W} (h : a < b) (e : a.length = b.length) (x y : W) : a ++ x < b ++ y := by
  induction a generalizing b with
  | nil => cases b with
    | nil => exact absurd h (List.lt_irrefl _)
    | cons _ _ => simp at e
  | cons c a ih => cases b with
    | nil => simp at e
    | cons d b =>
      rw [List.cons_lt_cons_iff] at h
      rw [List.cons_append, List.cons_append, List.cons_lt_cons_iff]
      rcases h with h | ⟨rfl, h⟩
      · exact .inl h
      · exact .inr ⟨rfl, ih h (by simpa using e)⟩
theorem cands_sorted {ls : W} (hl : ls.Pairwise (· < ·)) {n : Nat} : ∀ {q : List W}, (∀ w ∈ q, w.length = n) → q.Pairwise (· < ·) → (cands ls q).Pairwise (· < ·)
  | [], _, _ => List.Pairwise.nil
  | w :: q, h, s => by
    rw [List.pairwise_cons] at s
    show ((ls.map fun c => w ++ [c]) ++ cands ls q).Pairwise _
    rw [List.pairwise_append]
    refine ⟨?_, cands_sorted hl (fun u hu => h u (List.mem_cons_of_mem _ hu)) s.2, ?_⟩
    · rw [List.pairwise_map]
      refine hl.imp fun {a b} h => app_lt.mpr ?_
      rw [List.cons_lt_cons_iff]; exact .inl h
    · intro a ha b hb
      obtain ⟨c, hc, rfl⟩ := List.mem_map.mp ha
      obtain ⟨u, hu, d, hd, rfl⟩ := mem_cands.mp hb
      exact lt_app (s.1 u hu) (by rw [h w List.mem_cons_self, h u (List.mem_cons_of_mem _ hu)]) _ _
section
variable {σ : Type} [DecidableEq σ] (found : W → Bool) (st : W → σ) (ls : W)
def procW : List W → List W → List W → W ⊕ (List W × List W)
  | [], V, L => .inr (V, L)
  | c :: cs, V, L => if found c then .inl c else if st c ∈ V.map st then procW cs V L else procW cs (V ++ [c]) (L ++ [c])
def bfsW : Nat → List W → List W → Option (Option W)
  | 0, _, _ => none
  | n + 1, q, V => if q = [] then some none else match procW found st (cands ls q) V [] with
    | .inl c => some (some c)
    | .inr (V', L) => bfsW n L V'
def Over (w : W) : Prop := ∀ c ∈ w, c ∈ ls
def Good (w : W) : Prop := Over ls w ∧ ∀ u, u <+: w → found u = false
variable {found st ls}
theorem Good.snoc {w : W} {c : Nat} (h : Good found ls w) (hc : c ∈ ls) (hf : found (w ++ [c]) = false) : Good found ls (w ++ [c]) := by
  refine ⟨fun d hd => ?_, fun u hu => ?_⟩
  · rcases List.mem_append.mp hd with h' | h'
    · exact h.1 d h'
    · rw [List.mem_singleton.mp h']; exact hc
  · rcases pre_split hu with h' | ⟨x, hx, rfl, h'⟩
    · exact h.2 u h'
    · have : x = [c] := by
        obtain ⟨y, hy⟩ := h'
        cases x with
        | nil => exact absurd rfl hx
        | cons a x =>
          simp at hy
          rw [hy.1, hy.2.1]
      rw [this]; exact hf
/-- the smallest one that is found -/
structure Least (found : W → Bool) (ls : W) (w : W) : Prop where
  over : Over ls w
  hit : found w = true
  least : ∀ u, Over ls u → found u = true → leL w u
theorem Least.uniq {w v : W} (h : Least found ls w) (k : Least found ls v) : w = v := leL_anti (h.least v k.over k.hit) (k.least w h.over h.hit)
theorem proc_least (hc : ∀ u v, Good found ls u → Good found ls v → st u = st v → ∀ z, found (u ++ z) = found (v ++ z)) {w : W} (hw : Least found ls w) {n : Nat} (hn : n < w.length) :
    ∀ {cs V L : List W} (ds : List W), (ds ++ cs).Pairwise (· < ·) → w.take (n + 1) ∈ ds ++ cs → (∀ c ∈ cs, c.length = n + 1 ∧ ∃ u d, Good found ls u ∧ d ∈ ls ∧ c = u ++ [d]) →
      L.Pairwise (· < ·) → (∀ l ∈ L, l.length = n + 1 ∧ ∀ c ∈ cs, l < c) → (∀ v ∈ V, Good found ls v ∧ (v.length ≤ n ∨ v ∈ L)) → (∀ l ∈ L, l ∈ V) → (w.take (n + 1) ∈ ds → n + 1 < w.length ∧ w.take (n + 1) ∈ L) →
      match procW found st cs V L with
      | .inl c => c = w
      | .inr (V', L') => n + 1 < w.length ∧ w.take (n + 1) ∈ L' ∧ L'.Pairwise (· < ·) ∧ (∀ l ∈ L', l.length = n + 1 ∧ Good found ls l) ∧ ∀ v ∈ V', Good found ls v ∧ v.length ≤ n + 1
  | [], V, L, ds, hs, hm, hcs, hL, hL2, hV, hLV, hd => by
    rw [List.append_nil] at hm
    obtain ⟨h1, h2⟩ := hd hm
    exact ⟨h1, h2, hL, fun l hl => ⟨(hL2 l hl).1, (hV l (hLV l hl)).1⟩, fun v hv => ⟨(hV v hv).1, (hV v hv).2.elim (fun z => by omega) fun z => by rw [(hL2 v z).1]; exact Nat.le_refl _⟩⟩
  | c :: cs, V, L, ds, hs, hm, hcs, hL, hL2, hV, hLV, hd => by
    obtain ⟨hlen, u, d, hu, hd', ec⟩ := hcs c List.mem_cons_self
    have hso := hs
    rw [List.pairwise_append, List.pairwise_cons] at hs
    unfold procW
    by_cases hf : found c = true
    · rw [if_pos hf]
      show c = w
      have hov : Over ls c := by
        rw [ec]; intro x hx
        rcases List.mem_append.mp hx with h' | h'
        · exact hu.1 x h'
        · rw [List.mem_singleton.mp h']; exact hd'
      have hle := hw.least c hov hf
      have hwl : w.length = n + 1 := by rcases hle with h | ⟨h, _⟩ <;> omega
      have hwt : w.take (n + 1) = w := List.take_of_length_le (by omega)
      have hwc : w ≤ c := by
        rcases hle with h | ⟨_, h⟩
        · omega
        · exact h
      rw [hwt] at hm hd
      rcases List.mem_append.mp hm with h | h
      · have := (hd h).1; omega
      · rcases List.mem_cons.mp h with h | h
        · exact h.symm
        · exact absurd (hs.2.1.1 w h) (List.not_lt.mpr hwc)
    · have hf : found c = false := by simpa using hf
      rw [if_neg (by rw [hf]; exact Bool.false_ne_true)]
      have hg : Good found ls c := by rw [ec] at hf ⊢; exact hu.snoc hd' hf
      have hm' : w.take (n + 1) ∈ (ds ++ [c]) ++ cs := by rw [List.append_assoc]; exact hm
      have hs' : ((ds ++ [c]) ++ cs).Pairwise (· < ·) := by rw [List.append_assoc]; exact hso
      have hwn : w.take (n + 1) = c → n + 1 < w.length := fun e => by
        rcases Nat.lt_or_ge (n + 1) w.length with h | h
        · exact h
        · rw [List.take_of_length_le h] at e; rw [← e, hw.hit] at hf; cases hf
      by_cases hv : st c ∈ V.map st
      · rw [if_pos hv]
        refine proc_least hc hw hn (ds ++ [c]) hs' hm' (fun x hx => hcs x (List.mem_cons_of_mem _ hx)) hL (fun l hl => ⟨(hL2 l hl).1, fun x hx => (hL2 l hl).2 x (List.mem_cons_of_mem _ hx)⟩) hV hLV fun h => ?_
        rcases List.mem_append.mp h with h | h
        · exact hd h
        · exfalso
          have e := List.mem_singleton.mp h
          obtain ⟨v, hv, ev⟩ := List.mem_map.mp hv
          have hf2 := hc c v hg (hV v hv).1 ev.symm (w.drop (n + 1))
          rw [← e, List.take_append_drop, hw.hit] at hf2
          have hov : Over ls (v ++ w.drop (n + 1)) := fun x hx => by
            rcases List.mem_append.mp hx with h' | h'
            · exact (hV v hv).1.1 x h'
            · exact hw.over x (List.mem_of_mem_drop h')
          have hle := hw.least _ hov hf2.symm
          have hwl : w.length = (n + 1) + (w.drop (n + 1)).length := by rw [List.length_drop]; omega
          rcases (hV v hv).2 with hl | hl
          · rcases hle with h | ⟨h, _⟩
            · rw [List.length_append] at h; omega
            · rw [List.length_append] at h; omega
          · have h1 := hL2 v hl
            have h2 := lt_app (h1.2 c List.mem_cons_self) (by rw [h1.1, hlen]) (w.drop (n + 1)) (w.drop (n + 1))
            rw [← e, List.take_append_drop] at h2
            rcases hle with h | ⟨_, h⟩
            · rw [List.length_append, h1.1] at h; omega
            · exact absurd h2 (List.not_lt.mpr h)
      · rw [if_neg hv]
        refine proc_least hc hw hn (ds ++ [c]) hs' hm' (fun x hx => hcs x (List.mem_cons_of_mem _ hx)) ?_ ?_ ?_ ?_ ?_
        · rw [List.pairwise_append]
          exact ⟨hL, List.pairwise_singleton _ _, fun a ha b hb => by rw [List.mem_singleton.mp hb]; exact (hL2 a ha).2 c List.mem_cons_self⟩
        · intro l hl
          rcases List.mem_append.mp hl with h | h
          · exact ⟨(hL2 l h).1, fun x hx => (hL2 l h).2 x (List.mem_cons_of_mem _ hx)⟩
          · rw [List.mem_singleton.mp h]; exact ⟨hlen, fun x hx => hs.2.1.1 x hx⟩
        · intro v hv
          rcases List.mem_append.mp hv with h | h
          · exact ⟨(hV v h).1, (hV v h).2.imp id fun z => List.mem_append_left _ z⟩
          · rw [List.mem_singleton.mp h]; exact ⟨hg, .inr (List.mem_append_right _ (List.mem_singleton.mpr rfl))⟩
        · intro l hl
          rcases List.mem_append.mp hl with h | h
          · exact List.mem_append_left _ (hLV l h)
          · exact List.mem_append_right _ h
        · intro h
          rcases List.mem_append.mp h with h | h
          · exact ⟨(hd h).1, List.mem_append_left _ (hd h).2⟩
          · have e := List.mem_singleton.mp h
            exact ⟨hwn e, List.mem_append_right _ (by rw [e]; exact List.mem_singleton.mpr rfl)⟩
theorem bfs_least (hl : ls.Pairwise (· < ·)) (hc : ∀ u v, Good found ls u → Good found ls v → st u = st v → ∀ z, found (u ++ z) = found (v ++ z)) {w : W} (hw : Least found ls w) :
    ∀ (k : Nat) {n : Nat} {q V : List W} {r : Option W}, n < w.length → w.take n ∈ q → q.Pairwise (· < ·) → (∀ l ∈ q, l.length = n ∧ Good found ls l) → (∀ v ∈ V, Good found ls v ∧ v.length ≤ n) → bfsW found st ls k q V = some r → r = some w
  | 0, _, _, _, _, _, _, _, _, _, h => by cases h
  | k + 1, n, q, V, r, hn, hm, hs, hq, hV, h => by
    unfold bfsW at h
    rw [if_neg (fun e => by rw [e] at hm; simp at hm)] at h
    have hm2 : w.take (n + 1) ∈ [] ++ cands ls q := by
      refine mem_cands.mpr ⟨_, hm, w[n], hw.over _ (List.getElem_mem hn), ?_⟩
      rw [List.take_append_getElem hn]
    have := proc_least hc hw hn (cs := cands ls q) (V := V) (L := []) [] (cands_sorted hl (fun u hu => (hq u hu).1) hs) hm2 (fun c hc' => by
      obtain ⟨u, hu, d, hd, rfl⟩ := mem_cands.mp hc'
      exact ⟨by rw [List.length_append, (hq u hu).1]; rfl, u, d, (hq u hu).2, hd, rfl⟩) List.Pairwise.nil (by simp) (fun v hv => ⟨(hV v hv).1, .inl (hV v hv).2⟩) (by simp) (by simp)
    cases e : procW found st (cands ls q) V [] with
    | inl c =>
      rw [e] at h this
      injection h with h
      rw [← h, show c = w from this]
    | inr p =>
      obtain ⟨V', L⟩ := p
      rw [e] at h this
      obtain ⟨h1, h2, h3, h4, h5⟩ := this
      exact bfs_least hl hc hw k h1 h2 h3 h4 h5 h
theorem proc_hit : ∀ {cs V L : List W} {c : W}, procW found st cs V L = .inl c → c ∈ cs ∧ found c = true
  | [], _, _, _, h => by cases h
  | d :: cs, V, L, c, h => by
    unfold procW at h
    split at h
    · rename_i hf
      injection h with h
      exact ⟨by rw [← h]; exact List.mem_cons_self, by rw [← h]; exact hf⟩
    · split at h
      · have := proc_hit h; exact ⟨List.mem_cons_of_mem _ this.1, this.2⟩
      · have := proc_hit h; exact ⟨List.mem_cons_of_mem _ this.1, this.2⟩
/-- all that is kept is good; the states are distinct -/
theorem proc_keep : ∀ {cs V L V' L' : List W}, (∀ c ∈ cs, ∃ u d, Good found ls u ∧ d ∈ ls ∧ c = u ++ [d]) → (∀ v ∈ V, Good found ls v) → (V.map st).Nodup → procW found st cs V L = .inr (V', L') →
    ∃ M, V' = V ++ M ∧ L' = L ++ M ∧ (∀ v ∈ V', Good found ls v) ∧ (V'.map st).Nodup ∧ ∀ m ∈ M, m ∈ cs
  | [], V, L, V', L', _, hg, hn, h => by
    injection h with h
    injection h with h1 h2
    exact ⟨[], by rw [List.append_nil, h1], by rw [List.append_nil, h2], h1 ▸ hg, h1 ▸ hn, by simp⟩
  | c :: cs, V, L, V', L', hc, hg, hn, h => by
    unfold procW at h
    split at h
    · cases h
    · rename_i hf
      have hf : found c = false := by simpa using hf
      obtain ⟨u, d, hu, hd, ec⟩ := hc c List.mem_cons_self
      split at h
      · obtain ⟨M, h1, h2, h3, h4, h5⟩ := proc_keep (fun x hx => hc x (List.mem_cons_of_mem _ hx)) hg hn h
        exact ⟨M, h1, h2, h3, h4, fun m hm => List.mem_cons_of_mem _ (h5 m hm)⟩
      · rename_i hv
        obtain ⟨M, h1, h2, h3, h4, h5⟩ := proc_keep (fun x hx => hc x (List.mem_cons_of_mem _ hx)) (V := V ++ [c]) (fun v hv => by
          rcases List.mem_append.mp hv with h | h
          · exact hg v h
          · rw [List.mem_singleton.mp h]; rw [ec] at hf ⊢; exact hu.snoc hd hf) (by
          rw [List.map_append, List.nodup_append]
          refine ⟨hn, by simp, fun a ha b hb e => hv ?_⟩
          simp at hb
          rw [← hb, ← e]; exact ha) h
        exact ⟨c :: M, by rw [h1, List.append_assoc]; rfl, by rw [h2, List.append_assoc]; rfl, h3, h4, fun m hm => by
          rcases List.mem_cons.mp hm with rfl | hm
          · exact List.mem_cons_self
          · exact List.mem_cons_of_mem _ (h5 m hm)⟩
/-- it ends where the states are few -/
theorem bfs_ends {N : Nat} (hN : ∀ V : List W, (∀ v ∈ V, Good found ls v) → (V.map st).Nodup → V.length ≤ N) :
    ∀ (k : Nat) {q V : List W}, N + 2 ≤ k + V.length → 1 ≤ k → (∀ v ∈ V, Good found ls v) → (∀ v ∈ q, Good found ls v) → (V.map st).Nodup → ∃ r, bfsW found st ls k q V = some r
  | 0, _, _, _, h1, _, _, _ => by omega
  | k + 1, q, V, hk, _, hg, hq, hn => by
    unfold bfsW
    by_cases h : q = []
    · rw [if_pos h]; exact ⟨_, rfl⟩
    · rw [if_neg h]
      cases e : procW found st (cands ls q) V [] with
      | inl c => exact ⟨_, rfl⟩
      | inr p =>
        obtain ⟨V', L⟩ := p
        have hcs : ∀ c ∈ cands ls q, ∃ u d, Good found ls u ∧ d ∈ ls ∧ c = u ++ [d] := fun c hc => by
          obtain ⟨u, hu, d, hd, rfl⟩ := mem_cands.mp hc
          exact ⟨u, d, hq u hu, hd, rfl⟩
        obtain ⟨M, h1, h2, h3, h4, h5⟩ := proc_keep hcs hg hn e
        have hV := hN V hg hn
        have hV' := hN V' h3 h4
        show ∃ r, bfsW found st ls k L V' = some r
        rw [List.nil_append] at h2
        subst h2
        by_cases hL : L = []
        · subst hL
          cases k with
          | zero => omega
          | succ k => exact ⟨none, by unfold bfsW; rw [if_pos rfl]⟩
        · have := List.length_pos_iff.mpr hL
          have hl : V'.length = V.length + L.length := by rw [h1, List.length_append]
          exact bfs_ends hN k (by omega) (by omega) h3 (fun v hv => h3 v (by rw [h1]; exact List.mem_append_right _ hv)) h4
end
/-! all words up to a length -/
def levW (ls : W) : Nat → List W
  | 0 => [[]]
  | n + 1 => cands ls (levW ls n)
def allW (ls : W) : Nat → List W
  | 0 => [[]]
  | n + 1 => allW ls n ++ levW ls (n + 1)
theorem levW_len {ls : W} : ∀ {n : Nat}, ∀ w ∈ levW ls n, w.length = n
  | 0, w, h => by rw [List.mem_singleton.mp h]; rfl
  | n + 1, w, h => by
    obtain ⟨u, hu, c, hc, rfl⟩ := mem_cands.mp h
    rw [List.length_append, levW_len u hu]; rfl
theorem mem_levW {ls : W} : ∀ {n : Nat} {w : W}, w ∈ levW ls n ↔ w.length = n ∧ Over ls w
  | 0, w => by
    constructor
    · intro h; rw [List.mem_singleton.mp h]; exact ⟨rfl, fun c hc => by simp at hc⟩
    · rintro ⟨h, _⟩; rw [List.length_eq_zero_iff.mp h]; exact List.mem_singleton.mpr rfl
  | n + 1, w => by
    constructor
    · intro h
      obtain ⟨u, hu, c, hc, rfl⟩ := mem_cands.mp h
      obtain ⟨h1, h2⟩ := mem_levW.mp hu
      refine ⟨by rw [List.length_append, h1]; rfl, fun d hd => ?_⟩
      rcases List.mem_append.mp hd with h | h
      · exact h2 d h
      · rw [List.mem_singleton.mp h]; exact hc
    · rintro ⟨h1, h2⟩
      have hne : w ≠ [] := fun e => by rw [e] at h1; simp at h1
      have e := List.dropLast_concat_getLast hne
      refine mem_cands.mpr ⟨w.dropLast, mem_levW.mpr ⟨by rw [List.length_dropLast]; omega, fun d hd => h2 d ((List.dropLast_sublist w).subset hd)⟩, w.getLast hne, h2 _ (List.getLast_mem hne), e.symm⟩
theorem mem_allW {ls : W} : ∀ {n : Nat} {w : W}, w ∈ allW ls n ↔ w.length ≤ n ∧ Over ls w
  | 0, w => by
    rw [show allW ls 0 = levW ls 0 from rfl, mem_levW]
    exact ⟨fun ⟨a, b⟩ => ⟨by omega, b⟩, fun ⟨a, b⟩ => ⟨by omega, b⟩⟩
  | n + 1, w => by
    unfold allW
    rw [List.mem_append, mem_allW, mem_levW]
    constructor
    · rintro (⟨a, b⟩ | ⟨a, b⟩) <;> exact ⟨by omega, b⟩
    · rintro ⟨a, b⟩
      rcases Nat.lt_or_ge n w.length with h | h
      · exact .inr ⟨by omega, b⟩
      · exact .inl ⟨h, b⟩
theorem levW_sorted {ls : W} (hl : ls.Pairwise (· < ·)) : ∀ n, (levW ls n).Pairwise (· < ·)
  | 0 => List.pairwise_singleton _ _
  | n + 1 => cands_sorted hl (fun w hw => levW_len w hw) (levW_sorted hl n)
theorem allW_sorted {ls : W} (hl : ls.Pairwise (· < ·)) : ∀ n, (allW ls n).Pairwise fun a b => leL a b ∧ a ≠ b
  | 0 => List.pairwise_singleton _ _
  | n + 1 => by
    unfold allW
    rw [List.pairwise_append]
    refine ⟨allW_sorted hl n, ?_, fun a ha b hb => ?_⟩
    · have h1 := levW_sorted hl (n + 1)
      have h2 : ∀ w ∈ levW ls (n + 1), w.length = n + 1 := fun w hw => levW_len w hw
      refine List.Pairwise.imp_of_mem (fun {a b} ha hb h => ⟨.inr ⟨by rw [h2 a ha, h2 b hb], List.le_of_lt h⟩, fun e => ?_⟩) h1
      rw [e] at h; exact List.lt_irrefl _ h
    · have h1 := (mem_allW.mp ha).1
      have h2 := levW_len b hb
      exact ⟨.inl (by omega), fun e => by rw [e] at h1; omega⟩
section
variable {σ : Type} [DecidableEq σ] {found : W → Bool} {st : W → σ} {ls : W}
theorem least_ex {u : W} (ho : Over ls u) (hf : found u = true) : ∃ w, Least found ls w := by
  have hm : u ∈ (allW ls u.length).filter found := List.mem_filter.mpr ⟨mem_allW.mpr ⟨Nat.le_refl _, ho⟩, hf⟩
  have hs := inOrder_sorted ((allW ls u.length).filter found)
  have hp := inOrder_perm ((allW ls u.length).filter found)
  cases e : inOrder ((allW ls u.length).filter found) with
  | nil => have := hp.mem_iff.mpr hm; rw [e] at this; simp at this
  | cons w r =>
    rw [e] at hs hp
    have hw := List.mem_filter.mp (hp.mem_iff.mp List.mem_cons_self)
    have hle : ∀ x ∈ (allW ls u.length).filter found, leL w x := fun x hx => by
      rcases List.mem_cons.mp (hp.mem_iff.mpr hx) with rfl | h
      · exact leL_refl _
      · exact (List.pairwise_cons.mp hs).1 x h
    refine ⟨w, (mem_allW.mp hw.1).2, hw.2, fun x hx hfx => ?_⟩
    rcases Nat.lt_or_ge u.length x.length with h | h
    · exact leL_trans (hle u hm) (.inl h)
    · exact hle x (List.mem_filter.mpr ⟨mem_allW.mpr ⟨h, hx⟩, hfx⟩)
/-- what the search finds -/
def Finds (found : W → Bool) (ls : W) (r : Option W) : Prop := match r with
  | none => ∀ u, Over ls u → found u = false
  | some w => Least found ls w
theorem Finds.uniq {r r' : Option W} (h : Finds found ls r) (k : Finds found ls r') : r = r' := by
  cases r with
  | none => cases r' with
    | none => rfl
    | some w => have h1 := h w k.over; rw [k.hit] at h1; cases h1
  | some w => cases r' with
    | none => have h1 := k w h.over; rw [h.hit] at h1; cases h1
    | some v => rw [Least.uniq h k]
theorem bfs_finds (hl : ls.Pairwise (· < ·)) (hc : ∀ u v, Good found ls u → Good found ls v → st u = st v → ∀ z, found (u ++ z) = found (v ++ z)) (h0 : found [] = false) {k : Nat} {r : Option W} (h : bfsW found st ls k [[]] [[]] = some r)
    (hr : ∀ c, r = some c → Over ls c ∧ found c = true) : Finds found ls r := by
  have hg : Good found ls [] := ⟨fun c hc => by simp at hc, fun u hu => by rw [List.prefix_nil.mp hu]; exact h0⟩
  have main : ∀ w, Least found ls w → r = some w := fun w hw => by
    have hwl : 0 < w.length := List.length_pos_iff.mpr fun e => by have := hw.hit; rw [e, h0] at this; cases this
    exact bfs_least hl hc hw k hwl (by simp) (List.pairwise_singleton _ _) (fun l hl => by rw [List.mem_singleton.mp hl]; exact ⟨rfl, hg⟩) (fun l hl => by rw [List.mem_singleton.mp hl]; exact ⟨hg, Nat.le_refl _⟩) h
  cases r with
  | none =>
    intro u hu
    cases e : found u with
    | false => rfl
    | true =>
      obtain ⟨w, hw⟩ := least_ex hu e
      have := main w hw; cases this
  | some c =>
    obtain ⟨h1, h2⟩ := hr c rfl
    obtain ⟨w, hw⟩ := least_ex h1 h2
    have := main w hw
    injection this with e
    rw [e]; exact hw
theorem bfs_hit : ∀ (k : Nat) {q V : List W} {c : W}, (∀ v ∈ q, Good found ls v) → (∀ v ∈ V, Good found ls v) → (V.map st).Nodup → bfsW found st ls k q V = some (some c) → Over ls c ∧ found c = true
  | 0, _, _, _, _, _, _, h => by cases h
  | k + 1, q, V, c, hq, hg, hn, h => by
    unfold bfsW at h
    split at h
    · cases h
    · cases e : procW found st (cands ls q) V [] with
      | inl d =>
        rw [e] at h
        injection h with h
        injection h with h
        obtain ⟨h1, h2⟩ := proc_hit e
        obtain ⟨u, hu, x, hx, e2⟩ := mem_cands.mp h1
        rw [← h]
        refine ⟨fun y hy => ?_, h2⟩
        rw [e2] at hy
        rcases List.mem_append.mp hy with h | h
        · exact (hq u hu).1 y h
        · rw [List.mem_singleton.mp h]; exact hx
      | inr p =>
        obtain ⟨V', L⟩ := p
        rw [e] at h
        have hcs : ∀ c ∈ cands ls q, ∃ u d, Good found ls u ∧ d ∈ ls ∧ c = u ++ [d] := fun c hc => by
          obtain ⟨u, hu, d, hd, rfl⟩ := mem_cands.mp hc
          exact ⟨u, d, hq u hu, hd, rfl⟩
        obtain ⟨M, h1, h2, h3, h4, h5⟩ := proc_keep hcs hg hn e
        rw [List.nil_append] at h2
        subst h2
        exact bfs_hit k (fun v hv => h3 v (by rw [h1]; exact List.mem_append_right _ hv)) h3 h4 h
end
end TP
set_option Elab.async false
set_option linter.all false
set_option maxRecDepth 100000
set_option maxHeartbeats 400000
/-! Markings, plainly. -/
namespace TP
open TD
/-! pairs in order -/
theorem ltL_irrefl (a : Nat × W) : ltL a a = false := by simp [ltL, List.lt_irrefl]
def leP (a b : Nat × W) : Prop := ltL b a = false
theorem leP_iff {a b : Nat × W} : leP a b ↔ a.1 < b.1 ∨ (a.1 = b.1 ∧ a.2 ≤ b.2) := by
  unfold leP ltL
  rw [Bool.or_eq_false_iff, decide_eq_false_iff_not, Bool.and_eq_false_iff, decide_eq_false_iff_not, decide_eq_false_iff_not]
  constructor
  · rintro ⟨h, h2⟩
    rcases Nat.lt_or_ge a.1 b.1 with q | q
    · exact .inl q
    · have e : b.1 = a.1 := by omega
      rcases h2 with h2 | h2
      · exact absurd e h2
      · exact .inr ⟨e.symm, List.not_lt.mp h2⟩
  · rintro (h | ⟨h, h2⟩)
    · exact ⟨by omega, .inl (by omega)⟩
    · exact ⟨by omega, .inr (List.not_lt.mpr h2)⟩
theorem leP_refl (a : Nat × W) : leP a a := ltL_irrefl a
theorem leP_trans {a b c : Nat × W} (h : leP a b) (k : leP b c) : leP a c := by
  rw [leP_iff] at *
  rcases h with h | ⟨h, h'⟩ <;> rcases k with k | ⟨k, k'⟩
  · exact .inl (by omega)
  · exact .inl (by omega)
  · exact .inl (by omega)
  · exact .inr ⟨by omega, List.le_trans h' k'⟩
theorem leP_total (a b : Nat × W) : leP a b ∨ leP b a := by
  rw [leP_iff, leP_iff]
  rcases Nat.lt_trichotomy a.1 b.1 with h | h | h
  · exact .inl (.inl h)
  · rcases List.le_total a.2 b.2 with q | q
    · exact .inl (.inr ⟨h, q⟩)
    · exact .inr (.inr ⟨h.symm, q⟩)
  · exact .inr (.inl h)
theorem leP_anti {a b : Nat × W} (h : leP a b) (k : leP b a) : a = b := by
  rw [leP_iff] at *
  rcases h with h | ⟨h, h'⟩ <;> rcases k with k | ⟨k, k'⟩
  · omega
  · omega
  · omega
  · exact Prod.ext h (List.le_antisymm h' k')
theorem minL_spec (x : Nat × W) (ys : List (Nat × W)) : minL x ys ∈ x :: ys ∧ ∀ y ∈ x :: ys, leP (minL x ys) y := by
  unfold minL
  induction ys generalizing x with
  | nil => exact ⟨List.mem_cons_self, fun y hy => by rw [List.mem_singleton.mp hy]; exact leP_refl x⟩
  | cons y ys ih =>
    rw [List.foldl_cons]
    by_cases h : ltL y x = true
    · rw [if_pos h]
      obtain ⟨i1, i2⟩ := ih y
      refine ⟨List.mem_cons_of_mem _ i1, fun z hz => ?_⟩
      rcases List.mem_cons.mp hz with rfl | hz
      · refine leP_trans (i2 y List.mem_cons_self) ?_
        rcases leP_total y z with q | q
        · exact q
        · unfold leP at q; rw [h] at q; cases q
      · exact i2 z hz
    · rw [if_neg h]
      obtain ⟨i1, i2⟩ := ih x
      have hxy : leP x y := by unfold leP; simpa using h
      refine ⟨?_, fun z hz => ?_⟩
      · rcases List.mem_cons.mp i1 with e | i1
        · rw [e]; exact List.mem_cons_self
        · exact List.mem_cons_of_mem _ (List.mem_cons_of_mem _ i1)
      · rcases List.mem_cons.mp hz with rfl | hz
        · exact i2 _ List.mem_cons_self
        · rcases List.mem_cons.mp hz with rfl | hz
          · exact leP_trans (i2 x List.mem_cons_self) hxy
          · exact i2 z (List.mem_cons_of_mem _ hz)
/-! pieces -/
def trU (s : Sc) (u : List W) : W := (u.map (val s)).flatten
def goodU (s : Sc) (u : List W) : Bool := decide (mapped (readT s) (trU s u) = some u.flatten)
def joinM : List W → W
  | [] => []
  | [p] => p
  | p :: q :: r => p ++ 39 :: joinM (q :: r)
theorem joinM_cons (p : W) (r : List W) : joinM (p :: r) = p ++ (if r = [] then [] else 39 :: joinM r) := by
  cases r with
  | nil => simp [joinM]
  | cons q r => simp [joinM]
theorem joinM_split : ∀ x : W, joinM (splitC 39 x) = x
  | [] => rfl
  | c :: r => by
    have ih := joinM_split r
    by_cases h : c = 39
    · subst h
      rw [splitC_hit, joinM_cons, if_neg (splitC_ne 39 r), ih]; rfl
    · rw [splitC_miss h]
      cases e : splitC 39 r with
      | nil => exact absurd e (splitC_ne 39 r)
      | cons p ps =>
        rw [e, joinM_cons] at ih
        show joinM ((c :: p) :: ps) = _
        rw [joinM_cons, List.cons_append, ih]
theorem split_joinM : ∀ {ps : List W}, ps ≠ [] → (∀ p ∈ ps, 39 ∉ p) → splitC 39 (joinM ps) = ps
  | [], h, _ => absurd rfl h
  | [p], _, h => splitC_last (h p List.mem_cons_self)
  | p :: q :: r, _, h => by
    show splitC 39 (p ++ 39 :: joinM (q :: r)) = _
    rw [splitC_app (h p List.mem_cons_self), split_joinM (by simp) fun x hx => h x (List.mem_cons_of_mem _ hx)]
structure Div (s : Sc) (l : List W) (us : List (List W)) : Prop where
  flat : us.flatten = l
  ok : ∀ u ∈ us, u ≠ [] ∧ goodU s u = true
theorem Div.nil {s : Sc} {us : List (List W)} (h : Div s [] us) : us = [] := by
  cases us with
  | nil => rfl
  | cons u v =>
    have := h.flat
    rw [List.flatten_cons] at this
    exact absurd (List.append_eq_nil_iff.mp this).1 (h.ok u List.mem_cons_self).1
theorem Div.cons {s : Sc} {l u : List W} {v : List (List W)} (h : Div s l (u :: v)) : ∃ k, k < l.length ∧ u = l.take (k + 1) ∧ Div s (l.drop (k + 1)) v ∧ goodU s u = true := by
  obtain ⟨h1, h2⟩ := h.ok u List.mem_cons_self
  have hl := List.length_pos_iff.mpr h1
  have e := h.flat
  rw [List.flatten_cons] at e
  refine ⟨u.length - 1, ?_, ?_, ⟨?_, fun x hx => h.ok x (List.mem_cons_of_mem _ hx)⟩, h2⟩
  · rw [← e, List.length_append]; omega
  · rw [show u.length - 1 + 1 = u.length by omega, ← e, List.take_left]
  · rw [show u.length - 1 + 1 = u.length by omega, ← e, List.drop_left]
theorem Div.mk' {s : Sc} {l : List W} {k : Nat} {v : List (List W)} (hk : k < l.length) (hg : goodU s (l.take (k + 1)) = true) (h : Div s (l.drop (k + 1)) v) : Div s l (l.take (k + 1) :: v) := by
  refine ⟨by rw [List.flatten_cons, h.flat, List.take_append_drop], fun u hu => ?_⟩
  rcases List.mem_cons.mp hu with rfl | hu
  · refine ⟨fun e => ?_, hg⟩
    have := congrArg List.length e
    rw [List.length_take, List.length_nil] at this
    omega
  · exact h.ok u hu
/-! the best -/
def optsB (s : Sc) (l : List W) (t : List (Option (Nat × W))) : List (Nat × W) :=
  (List.range l.length).filterMap fun k => match t[k]? with
    | some (some r) => if goodU s (l.take (k + 1)) then some (r.1 + 1, trU s (l.take (k + 1)) ++ (if k + 1 < l.length then 39 :: r.2 else [])) else none
    | _ => none
def minO : List (Nat × W) → Option (Nat × W)
  | [] => none
  | x :: ys => some (minL x ys)
def bests (s : Sc) : List W → List (Option (Nat × W))
  | [] => [some (0, [])]
  | a :: r => minO (optsB s (a :: r) (bests s r)) :: bests s r
def bestB (s : Sc) (l : List W) : Option (Nat × W) := (bests s l)[0]?.getD none
theorem bests_drop (s : Sc) : ∀ (l : List W) (k : Nat), k ≤ l.length → (bests s l).drop k = bests s (l.drop k)
  | l, 0, _ => rfl
  | [], k + 1, h => by simp at h
  | a :: r, k + 1, h => by
    show (bests s r).drop k = bests s (r.drop k)
    exact bests_drop s r k (by simpa using h)
theorem bests_at (s : Sc) (l : List W) (k : Nat) (h : k ≤ l.length) : (bests s l)[k]? = some (bestB s (l.drop k)) := by
  have e : (bests s l)[k]? = (bests s (l.drop k))[0]? := by rw [← bests_drop s l k h, List.getElem?_drop]; rfl
  rw [e]
  unfold bestB
  cases q : l.drop k with
  | nil => rfl
  | cons a r => rfl
theorem bestB_nil (s : Sc) : bestB s [] = some (0, []) := rfl
theorem bestB_cons (s : Sc) (a : W) (r : List W) : bestB s (a :: r) = minO (optsB s (a :: r) (bests s r)) := rfl
theorem mem_optsB {s : Sc} {a : W} {r : List W} {o : Nat × W} : o ∈ optsB s (a :: r) (bests s r) ↔ ∃ k, k < (a :: r).length ∧ goodU s ((a :: r).take (k + 1)) = true ∧ ∃ q, bestB s ((a :: r).drop (k + 1)) = some q ∧ o = (q.1 + 1, trU s ((a :: r).take (k + 1)) ++ (if k + 1 < (a :: r).length then 39 :: q.2 else [])) := by
  unfold optsB
  rw [List.mem_filterMap]
  constructor
  · rintro ⟨k, hk, h⟩
    have hk' := List.mem_range.mp hk
    have e := bests_at s r k (by simp at hk'; omega)
    rw [e] at h
    cases q : bestB s (r.drop k) with
    | none => rw [q] at h; simp at h
    | some q' =>
      rw [q] at h
      simp only at h
      split at h
      · rename_i hg
        exact ⟨k, hk', hg, q', q, (Option.some.inj h).symm⟩
      · cases h
  · rintro ⟨k, hk, hg, q, hq, rfl⟩
    refine ⟨k, List.mem_range.mpr hk, ?_⟩
    have e := bests_at s r k (by simp at hk; omega)
    have hq' : bestB s (r.drop k) = some q := hq
    rw [e, hq']
    simp only
    rw [if_pos hg]
theorem bestB_spec (s : Sc) : ∀ (n : Nat) (l : List W), l.length ≤ n → (bestB s l = none → ∀ us, ¬ Div s l us) ∧ (∀ r, bestB s l = some r → (∃ us, Div s l us ∧ r = (us.length, joinM (us.map (trU s)))) ∧ ∀ us, Div s l us → leP r (us.length, joinM (us.map (trU s))))
  | n, [], _ => by
    refine ⟨fun h => by (rw [bestB_nil] at h; cases h), fun r h => ?_⟩
    rw [bestB_nil] at h
    cases h
    refine ⟨⟨[], ⟨rfl, by simp⟩, rfl⟩, fun us hu => ?_⟩
    rw [hu.nil]; exact leP_refl _
  | 0, a :: r, h => by simp at h
  | n + 1, a :: r, h => by
    have ih : ∀ k, k < (a :: r).length → _ := fun k hk => bestB_spec s n ((a :: r).drop (k + 1)) (by rw [List.length_drop]; omega)
    have up : ∀ us, Div s (a :: r) us → ∃ o ∈ optsB s (a :: r) (bests s r), leP o (us.length, joinM (us.map (trU s))) := fun us hu => by
      cases us with
      | nil => have := hu.flat; simp at this
      | cons u v =>
        obtain ⟨k, hk, e, hd, hg⟩ := hu.cons
        obtain ⟨i1, i2⟩ := ih k hk
        cases q : bestB s ((a :: r).drop (k + 1)) with
        | none => exact absurd hd (i1 q v)
        | some o =>
          refine ⟨_, mem_optsB.mpr ⟨k, hk, e ▸ hg, o, q, rfl⟩, ?_⟩
          have hle := (i2 o q).2 v hd
          rw [leP_iff] at hle ⊢
          rw [List.map_cons, joinM_cons, List.length_cons, e]
          have hv : (v.map (trU s) = []) ↔ ¬ k + 1 < (a :: r).length := by
            rw [List.map_eq_nil_iff]
            constructor
            · rintro rfl hlt
              have := hd.flat
              have e2 := congrArg List.length this
              rw [List.length_drop] at e2
              simp at e2 hlt; omega
            · intro hlt
              have : (a :: r).drop (k + 1) = [] := List.drop_eq_nil_of_le (by omega)
              rw [this] at hd
              exact hd.nil
          rcases hle with hle | ⟨h1, h2⟩
          · exact .inl (by show o.1 + 1 < v.length + 1; omega)
          · refine .inr ⟨by show o.1 + 1 = v.length + 1; omega, app_le.mpr ?_⟩
            by_cases hlt : k + 1 < (a :: r).length
            · rw [if_pos (show k + 1 < r.length + 1 from hlt), if_neg (fun z => hv.mp z hlt)]
              exact cons_le (b := 39) |>.mpr h2
            · rw [if_neg (show ¬ k + 1 < r.length + 1 from hlt), if_pos (hv.mpr hlt)]; exact List.le_refl _
    have down : ∀ o ∈ optsB s (a :: r) (bests s r), ∃ us, Div s (a :: r) us ∧ o = (us.length, joinM (us.map (trU s))) := fun o ho => by
      obtain ⟨k, hk, hg, q, hq, rfl⟩ := mem_optsB.mp ho
      obtain ⟨v, hd, rfl⟩ := ((ih k hk).2 q hq).1
      refine ⟨_, Div.mk' hk hg hd, ?_⟩
      rw [List.map_cons, joinM_cons, List.length_cons]
      congr 2
      by_cases hlt : k + 1 < (a :: r).length
      · rw [if_pos (show k + 1 < r.length + 1 from hlt), if_neg]
        intro z
        rw [List.map_eq_nil_iff] at z
        subst z
        have e2 := congrArg List.length hd.flat
        rw [List.length_drop] at e2
        simp at e2 hlt; omega
      · have : (a :: r).drop (k + 1) = [] := List.drop_eq_nil_of_le (by omega)
        rw [this] at hd
        rw [if_neg (show ¬ k + 1 < r.length + 1 from hlt), hd.nil]; rfl
    rw [bestB_cons]
    cases e : optsB s (a :: r) (bests s r) with
    | nil =>
      refine ⟨fun _ us hu => ?_, fun r' h => by cases h⟩
      obtain ⟨o, ho, _⟩ := up us hu
      rw [e] at ho; simp at ho
    | cons x ys =>
      refine ⟨fun h => (by cases h), fun r' h => ?_⟩
      cases h
      obtain ⟨m1, m2⟩ := minL_spec x ys
      refine ⟨down _ (by rw [e]; exact m1), fun us hu => ?_⟩
      obtain ⟨o, ho, hle⟩ := up us hu
      rw [e] at ho
      exact leP_trans (m2 o ho) hle
/-! is it a marking -/
def stopsI (s : Sc) (l : List W) (p : W) : List Nat := (List.range l.length).filter fun k => decide (trU s (l.take (k + 1)) = p)
def isMarkL (s : Sc) : List W → List W → Bool
  | l, [] => decide (l = [])
  | l, p :: rest => match stopsI s l p with
    | [] => false
    | k :: _ => goodU s (l.take (k + 1)) && isMarkL s (l.drop (k + 1)) rest
def isMark (s : Sc) (l : List W) (x : W) : Bool := if l = [] then decide (x = []) else isMarkL s l (splitC 39 x)
theorem isMarkL_sound (s : Sc) : ∀ (ps : List W) (l : List W), isMarkL s l ps = true → ∃ us, Div s l us ∧ us.map (trU s) = ps
  | [], l, h => by
    have := of_decide_eq_true h
    subst this
    exact ⟨[], ⟨rfl, by simp⟩, rfl⟩
  | p :: rest, l, h => by
    unfold isMarkL at h
    cases e : stopsI s l p with
    | nil => rw [e] at h; cases h
    | cons k ks =>
      rw [e] at h
      simp only [Bool.and_eq_true] at h
      have hk : k ∈ stopsI s l p := by rw [e]; exact List.mem_cons_self
      obtain ⟨h1, h2⟩ := List.mem_filter.mp hk
      obtain ⟨us, hd, hm⟩ := isMarkL_sound s rest _ h.2
      exact ⟨_, Div.mk' (List.mem_range.mp h1) h.1 hd, by rw [List.map_cons, hm, of_decide_eq_true h2]⟩
theorem trU_take_inj {s : Sc} {l : List W} (h : ∀ a ∈ l, 1 ≤ (val s a).length) : ∀ {i j : Nat}, i ≤ l.length → j ≤ l.length → trU s (l.take i) = trU s (l.take j) → i = j := by
  intro i j hi hj e
  have mono : ∀ {i j : Nat}, i < j → j ≤ l.length → (trU s (l.take i)).length < (trU s (l.take j)).length := fun {i j} hij hj => by
    have e1 : l.take j = l.take i ++ (l.drop i).take (j - i) := by
      conv => lhs; rw [show j = i + (j - i) by omega, List.take_add]
    rw [e1]
    unfold trU
    rw [List.map_append, List.flatten_append, List.length_append]
    have hne : (l.drop i).take (j - i) ≠ [] := fun z => by
      have := congrArg List.length z
      rw [List.length_take, List.length_drop] at this
      simp at this; omega
    cases q : (l.drop i).take (j - i) with
    | nil => exact absurd q hne
    | cons a r =>
      have : a ∈ l := List.mem_of_mem_drop (List.mem_of_mem_take (by rw [q]; exact List.mem_cons_self))
      have := h a this
      simp; omega
  rcases Nat.lt_trichotomy i j with h1 | h1 | h1
  · have := mono h1 hj; rw [e] at this; omega
  · exact h1
  · have := mono h1 hi; rw [e] at this; omega
theorem isMarkL_div {s : Sc} : ∀ {us : List (List W)} {l : List W}, (∀ a ∈ l, 1 ≤ (val s a).length) → Div s l us → isMarkL s l (us.map (trU s)) = true
  | [], l, _, h => by
    have := h.flat
    unfold isMarkL
    exact decide_eq_true this.symm
  | u :: v, l, hv, h => by
    obtain ⟨k, hk, e, hd, hg⟩ := h.cons
    have hmem : k ∈ stopsI s l (trU s u) := List.mem_filter.mpr ⟨List.mem_range.mpr hk, decide_eq_true (by rw [e])⟩
    rw [List.map_cons]
    unfold isMarkL
    cases q : stopsI s l (trU s u) with
    | nil => rw [q] at hmem; simp at hmem
    | cons k' ks =>
      have hk' : k' ∈ stopsI s l (trU s u) := by rw [q]; exact List.mem_cons_self
      obtain ⟨h1, h2⟩ := List.mem_filter.mp hk'
      have h1' := List.mem_range.mp h1
      have h3 := of_decide_eq_true h2
      rw [e] at h3
      have := trU_take_inj hv (by omega) (by omega) h3
      have : k' = k := by omega
      subst this
      simp only [Bool.and_eq_true]
      exact ⟨e ▸ hg, isMarkL_div (fun a ha => hv a (List.mem_of_mem_drop ha)) hd⟩
theorem isMark_iff {s : Sc} {l : List W} {x : W} (hv : ∀ a ∈ l, 1 ≤ (val s a).length) (h39 : ∀ a ∈ l, 39 ∉ val s a) : isMark s l x = true ↔ ∃ us, Div s l us ∧ joinM (us.map (trU s)) = x := by
  unfold isMark
  by_cases hl : l = []
  · rw [if_pos hl]
    subst hl
    rw [decide_eq_true_iff]
    constructor
    · rintro rfl; exact ⟨[], ⟨rfl, by simp⟩, rfl⟩
    · rintro ⟨us, hd, rfl⟩; rw [hd.nil]; rfl
  · rw [if_neg hl]
    constructor
    · intro h
      obtain ⟨us, hd, hm⟩ := isMarkL_sound s _ _ h
      exact ⟨us, hd, by rw [hm]; exact joinM_split x⟩
    · rintro ⟨us, hd, rfl⟩
      have hne : us ≠ [] := fun e => by have := hd.flat; rw [e] at this; exact hl this.symm
      rw [split_joinM (by simpa using hne)]
      · exact isMarkL_div hv hd
      · intro p hp
        obtain ⟨u, hu, rfl⟩ := List.mem_map.mp hp
        intro hm
        obtain ⟨y, hy, hm⟩ := List.mem_flatten.mp hm
        obtain ⟨a, ha, rfl⟩ := List.mem_map.mp hy
        refine h39 a ?_ hm
        rw [← hd.flat]
        exact List.mem_flatten.mpr ⟨u, hu, ha⟩
end TP
set_option Elab.async false
set_option linter.all false
set_option maxRecDepth 100000
set_option maxHeartbeats 400000
/-! Markings: the pieces of a word, as the program keeps them. -/
namespace TD
open PySem PySem.Spec PyProof.Rows L2 TP
section
variable {K : PySem.W.Frag} {M : List Addr} {H : Hp} {σ : L2.St} {ρ : List DV} {D : Ends} {ta tb tc : TE} {tz : TS} {i j l : Nat} {x y z : DV} {K' : PySem.W.Frag}
/-- a, b = e, f by way of a tuple -/
theorem q_tup2 {t : TA} (s : Sta K M H σ ρ) (h : EvA (cz K M H) t ρ [x, y]) (k : ∀ σ' H', Same H H' → Sta K M H' σ' ((ρ.set i x).set j y) → tz D σ' H') :
    tSeq (tAsg (tTupF t) (gTup K' 2 (gCons (gName i) (gCons (gName j) gNil)))) tz D σ H := by
    refine h H σ s.at (fun xs H1 => xs.length ≤ sizeLine ∧ NewT xs H1 fun v H2 => gTup K' 2 (gCons (gName i) (gCons (gName j) gNil)) v σ H2 (tz D)) fun vs H2 s2 o2 => ?_
    obtain ⟨v, w, rfl, o3, o4⟩ := args2 o2
    refine ⟨by show 2 ≤ _; decide, fun q o hq ho => ?_⟩
    have sn := same_new hq (.frz o (.tup [v, w]))
    have st := (s.same s2).same sn
    refine ⟨q, _, rfl, .inl (.inr ⟨o, upd_same⟩), rfl, _, _, rfl, _, _, rfl, rfl, ?_⟩
    exact k _ _ (s2.trans sn) ((st.set (o3.mono (Same.hid sn))).set (o4.mono (Same.hid sn)))
theorem args3 {K : PySem.W.Frag} {H : Hp} {vs : List V} {x y z : DV} (h : Args K H vs [x, y, z]) : ∃ u v w, vs = [u, v, w] ∧ VOk K H u x ∧ VOk K H v y ∧ VOk K H w z := by
  cases h with
  | cons a t => cases t with
    | cons b t => cases t with
      | cons c t => cases t; exact ⟨_, _, _, rfl, a, b, c⟩
theorem q_tup3 {t : TA} (s : Sta K M H σ ρ) (h : EvA (cz K M H) t ρ [x, y, z]) (k : ∀ σ' H', Same H H' → Sta K M H' σ' (((ρ.set i x).set j y).set l z) → tz D σ' H') :
    tSeq (tAsg (tTupF t) (gTup K' 3 (gCons (gName i) (gCons (gName j) (gCons (gName l) gNil))))) tz D σ H := by
    refine h H σ s.at (fun xs H1 => xs.length ≤ sizeLine ∧ NewT xs H1 fun v H2 => gTup K' 3 (gCons (gName i) (gCons (gName j) (gCons (gName l) gNil))) v σ H2 (tz D)) fun vs H2 s2 o2 => ?_
    obtain ⟨u, v, w, rfl, o3, o4, o5⟩ := args3 o2
    refine ⟨by show 3 ≤ _; decide, fun q o hq ho => ?_⟩
    have sn := same_new hq (.frz o (.tup [u, v, w]))
    have st := (s.same s2).same sn
    refine ⟨q, _, rfl, .inl (.inr ⟨o, upd_same⟩), rfl, _, _, rfl, _, _, rfl, _, _, rfl, rfl, ?_⟩
    exact k _ _ (s2.trans sn) (((st.set (o3.mono (Same.hid sn))).set (o4.mono (Same.hid sn))).set (o5.mono (Same.hid sn)))
/-- more is hidden, all the same -/
theorem Sta.hide {M' : List Addr} {H' : Hp} (s : Sta K M H σ ρ) (lv : Live M' H') (h : Same (hid M H) (hid M' H')) : Sta K M' H' σ ρ := ⟨lv, s.env.mono h⟩
end
theorem LS.to {K : PySem.W.Frag} {M : List Addr} {Pv : List DV → Hp → Prop} {H H' : Hp} {σ : L2.St} {ρ : List DV} (s : Sta K M H' σ ρ) (sm : Same (hid M H) (hid M H')) (p : Pv ρ H') : LS K M Pv H σ H' := ⟨ρ, sm, s, p⟩
abbrev nkP (i j : Nat) : NK := .tup [.num i, .num j]
theorem nkP_data (i j : Nat) : (PyData.tuple [.int i, .int j]) = (nkP i j).data := rfl
theorem nkP_inj {i j i' j' : Nat} : nkP i j = nkP i' j' ↔ i = i' ∧ j = j' := by
  constructor
  · intro h
    injection h with h
    injection h with h1 h2
    injection h1 with h1
    injection h2 with h2
    injection h2 with h2
    omega
  · rintro ⟨rfl, rfl⟩; rfl
def pcs (ps : List W) (p : Nat × Nat) : List W := (ps.drop p.1).take (p.2 - p.1)
def textsK (s : Sc) (ps : List W) (l : List (Nat × Nat)) : List (NK × D) := l.map fun p => (nkP p.1 p.2, ds (trU s (pcs ps p)))
def goodK (s : Sc) (ps : List W) (l : List (Nat × Nat)) : List (NK × D) := l.map fun p => (nkP p.1 p.2, .bool (goodU s (pcs ps p)))
def rowP (n i : Nat) : List (Nat × Nat) := (List.range (n - i)).map fun d => (i, i + 1 + d)
def pairsP (n : Nat) : List (Nat × Nat) := (List.range n).flatMap (rowP n)
theorem nget_map {l : List (Nat × Nat)} {f : Nat × Nat → D} {i j : Nat} : nget (l.map fun p => (nkP p.1 p.2, f p)) (nkP i j) = if (i, j) ∈ l then some (f (i, j)) else none := by
  induction l with
  | nil => rfl
  | cons p l ih =>
    unfold nget at ih ⊢
    rw [List.map_cons, List.find?_cons]
    by_cases h : p = (i, j)
    · subst h
      simp
    · have : ¬ nkP p.1 p.2 = nkP i j := fun e => h (Prod.ext (nkP_inj.mp e).1 (nkP_inj.mp e).2)
      simp only [this, decide_false]
      rw [ih]
      have h2 : ¬ (i, j) = p := fun e => h e.symm
      simp [h2]
theorem mem_rowP {n i a b : Nat} : (a, b) ∈ rowP n i ↔ a = i ∧ i < b ∧ b ≤ n := by
  unfold rowP
  rw [List.mem_map]
  constructor
  · rintro ⟨d, hd, e⟩
    have := List.mem_range.mp hd
    injection e with e1 e2
    omega
  · rintro ⟨rfl, h1, h2⟩
    exact ⟨b - a - 1, List.mem_range.mpr (by omega), by rw [Prod.mk.injEq]; omega⟩
theorem mem_pairsP {n a b : Nat} : (a, b) ∈ pairsP n ↔ a < b ∧ b ≤ n := by
  unfold pairsP
  rw [List.mem_flatMap]
  constructor
  · rintro ⟨i, hi, h⟩
    obtain ⟨rfl, h1, h2⟩ := mem_rowP.mp h
    exact ⟨h1, h2⟩
  · rintro ⟨h1, h2⟩
    exact ⟨a, List.mem_range.mpr (by omega), mem_rowP.mpr ⟨rfl, h1, h2⟩⟩
theorem nget_texts {s : Sc} {ps : List W} {i j : Nat} (h : i < j) (h2 : j ≤ ps.length) : nget (textsK s ps (pairsP ps.length)) (nkP i j) = some (ds (trU s (pcs ps (i, j)))) := by
  unfold textsK
  rw [nget_map (f := fun p => ds (trU s (pcs ps p))), if_pos (mem_pairsP.mpr ⟨h, h2⟩)]
theorem nget_good {s : Sc} {ps : List W} {i j : Nat} (h : i < j) (h2 : j ≤ ps.length) : nget (goodK s ps (pairsP ps.length)) (nkP i j) = some (.bool (goodU s (pcs ps (i, j)))) := by
  unfold goodK
  rw [nget_map (f := fun p => .bool (goodU s (pcs ps p))), if_pos (mem_pairsP.mpr ⟨h, h2⟩)]
/-- the promise of pieces_of -/
def spPieces (P : Program) (w : World) (K : PySem.W.Frag) : Sp := fun vs H Q _ => ∃ (M : List Addr) (s : Sc) (x : W) (ps : List W), Live M H ∧ Args K (hid M H) vs [.d (encS s), .d (ds x)] ∧ Scheme s ∧ TP.split (TP.writeT s) x = some ps ∧ x.length ≤ 40 ∧
  ∀ q o a p r H', H p = none → H r = none → p ≠ r → Same H H' → H' q = some (.frz o (.tup [a, .ref p, .ref r])) → Same (hid M H) (hid (r :: p :: M) H') → Dq (hid (r :: p :: M) H') a (encW ps) →
    MN P w (r :: p :: M) H' p (textsK s ps (pairsP ps.length)) → MN P w (r :: p :: M) H' r (goodK s ps (pairsP ps.length)) → Q (.ref q) H'
theorem call_pieces {P : Program} {w : World} {K K' : PySem.W.Frag} {M : List Addr} {H : Hp} {σ : L2.St} {ρ : List DV} {D : Ends} {ta : TA} {tz : TS} {i j l : Nat} {sc : Sc} {x : W} {ps : List W} {E : XK} (s : Sta K M H σ ρ) (ha : EvA (cz K M H) ta ρ [.d (encS sc), .d (ds x)]) (hs : Scheme sc) (e : TP.split (TP.writeT sc) x = some ps) (hx : x.length ≤ 40)
    (k : ∀ p r σ' H', p ∉ M → r ∉ p :: M → Same H H' → Same (hid M H) (hid (r :: p :: M) H') → Sta K (r :: p :: M) H' σ' (((ρ.set i (.d (encW ps))).set j (.v (.ref p))).set l (.v (.ref r))) → MN P w (r :: p :: M) H' p (textsK sc ps (pairsP ps.length)) → MN P w (r :: p :: M) H' r (goodK sc ps (pairsP ps.length)) → tz D σ' H') :
    tSeq (tAsg (tCall (spPieces P w K) [] E ta) (gTup K' 3 (gCons (gName i) (gCons (gName j) (gCons (gName l) gNil))))) tz D σ H :=
  ha H σ s.at _ fun vs H2 s2 o2 => by
    rw [List.append_nil]
    refine ⟨M, sc, x, ps, (s.same s2).lv, o2, hs, e, hx, fun q o a p r H' hp hr hpr sh hq sm da mp mr => ?_⟩
    refine asg3 rfl hq ?_
    have s2' := s.same s2
    have np : p ∉ M := s2'.lv.new hp
    have nr : r ∉ M := s2'.lv.new hr
    have lv : Live (r :: p :: M) H' := fun m hm => by
      rcases List.mem_cons.mp hm with rfl | hm
      · obtain ⟨_, _, e, _⟩ := mr; rw [e]; intro z; cases z
      · rcases List.mem_cons.mp hm with rfl | hm
        · obtain ⟨_, _, e, _⟩ := mp; rw [e]; intro z; cases z
        · exact (s2'.lv.same sh) m hm
    have st := s2'.hide lv sm
    have nr2 : r ∉ p :: M := fun z => by
      rcases List.mem_cons.mp z with e | z
      · exact hpr e.symm
      · exact nr z
    exact k p r _ _ np nr2 (s2.trans sh) ((Same.hid s2).trans sm) (((st.set (x := .d (encW ps)) da).set (x := .v (.ref p)) rfl).set (x := .v (.ref r)) rfl) mp mr
section
variable {c : Cz} {ρ : List DV} {ta : TA}
theorem ei_rngN {n : Nat} (h : EvA c ta ρ [.d (.int n)]) (hn : n ≤ 1000000) : EvI c (iRng1 ta) ρ ((List.range n).map fun (i : Nat) => .d (.int (i : Int))) := by
  refine EvI.is (ei_rng1 h hn) ?_
  apply List.map_congr_left
  intro i _
  rw [Int.zero_add]
theorem ei_rng2N {lo hi : Nat} (h : EvA c ta ρ [.d (.int lo), .d (.int hi)]) (h1 : lo ≤ 1000000) (h2 : hi ≤ 1000000) : EvI c (iRng2 ta) ρ ((List.range (hi - lo)).map fun (i : Nat) => .d (.int ((lo + i : Nat) : Int))) := by
  refine EvI.is (ei_rng2 h ⟨by omega, by omega, by omega, by omega⟩) ?_
  rw [show ((hi : Int) - (lo : Int)).toNat = hi - lo by omega]
  apply List.map_congr_left
  intro i _
  rw [Int.natCast_add]
theorem cut_mid {α : Type} (xs : List α) {i j : Nat} (h : i ≤ j) (hj : j ≤ xs.length) : cutL xs (some (i : Int)) (some (j : Int)) = (xs.drop i).take (j - i) := by
  unfold cutL HT.sIx
  have h1 : ¬ ((i : Int) < 0) := by omega
  have h2 : ¬ ((j : Int) < 0) := by omega
  simp only [h1, h2, if_false, Int.toNat_natCast]
  rw [Nat.min_eq_left hj, Nat.min_eq_left (Nat.le_trans h hj)]
end
end TD
set_option Elab.async false
set_option linter.all false
set_option maxRecDepth 100000
set_option maxHeartbeats 400000
/-! Markings: the options, the best. -/
namespace TD
open PySem PySem.Spec PyProof.Rows L2 TP
section
variable {c : Cz} {ρ : List DV} {ta : TA}
theorem ei_rng2M {lo hi : Nat} {a b : Int} (h : EvA c ta ρ [.d (.int a), .d (.int b)]) (ea : a = (lo : Int)) (eb : b = (hi : Int)) (h1 : lo ≤ 1000000) (h2 : hi ≤ 1000000) : EvI c (iRng2 ta) ρ ((List.range (hi - lo)).map fun (i : Nat) => .d (.int ((lo + i : Nat) : Int))) := by
  subst ea eb; exact ei_rng2N h h1 h2
theorem nkP_8 (i j : Nat) : (NestedKey.tup [.num (i : Int), .num (j : Int)]).depth ≤ 8 := by show 1 ≤ 8; decide
theorem ei_rng3N {n : Nat} (h : EvA c ta ρ [.d (.int ((n : Int) - 1)), .d (.int (-1)), .d (.int (-1))]) (hn : n ≤ 100000) : EvI c (iRng3 ta) ρ ((List.range n).map fun (i : Nat) => .d (.int ((n - 1 - i : Nat) : Int))) := by
  refine EvI.is (ei_rng3 h ⟨by omega, by omega, by omega, by omega⟩) ?_
  rw [show ((n : Int) - 1 - (-1)).toNat = n by omega]
  apply List.map_congr_left
  intro i hi
  have := List.mem_range.mp hi
  congr 2
  omega
end
theorem MN.more {P : Program} {w : World} {M : List Addr} {H H' : Hp} {p q : Addr} {kvs : List (NK × D)} (h : MN P w M H p kvs) (hq : Same (hid M H) (hid (q :: M) H')) (s : Same H H') : MN P w (q :: M) H' p kvs := ⟨List.mem_cons_of_mem _ h.1, let ⟨xs, a, b⟩ := h.2; ⟨xs, s _ _ a, NPair.mono hq b⟩⟩
def Atom : D → Bool
  | .list _ => false
  | .tuple _ => false
  | .dict _ => false
  | _ => true
theorem Atom.dq {d : D} (h : Atom d = true) {H H' : Hp} {v : V} (k : Dq H v d) : Dq H' v d := by
  cases k with
  | non => exact .non
  | bl b => exact .bl b
  | int i => exact .int i
  | str x => exact .str x
  | lst _ _ => cases h
  | tup _ _ _ => cases h
/-- d[k] of a hidden dict, the value no list and no tuple: also within a comprehension -/
theorem ev_ngetA {P : Program} {w : World} {c : Cz} {ρ : List DV} {td ty : TE} {p : Addr} {kvs : List (NK × D)} {ks : List NK} {v y : D} {M0 : List Addr} {H0 : Hp} (m : MN P w M0 H0 p kvs) (h0 : Same H0 c.H) (hT : c.T = []) (ha : EvX c td ρ (.v (.ref p))) (hb : EvX c ty ρ (.d y)) (e : y = (NestedKey.tup ks).data) (h8 : (NestedKey.tup ks).depth ≤ 8) (hg : nget kvs (.tup ks) = some v) (hv : Atom v = true) :
    EvX c (tNGet P w td ty) ρ (.d v) := fun H1 σ a Q q => by
  subst e
  refine ha H1 σ a _ fun x H2 s2 o2 => hb H2 σ (a.same s2) _ fun u H3 s3 o3 => ?_
  obtain rfl : x = V.ref p := o2
  have gr := ((a.same s2).same s3).gr
  rw [hT] at gr
  obtain ⟨_, xs, e, np⟩ := m.same (h0.trans (Gr.same gr))
  obtain ⟨ka, rfl⟩ := key_ref o3
  rcases NPair.find np (.tup ks) with ⟨v', d, h1, h2, h3⟩ | ⟨h1, h2⟩
  · rw [hg] at h2
    cases h2
    exact ⟨p, ka, xs, .tup ks, v', rfl, rfl, e, fun x hx => (NPair.keys np x hx).up, ⟨dq_up _ _ o3, h8⟩, h1, q _ H3 (s2.trans s3) (Atom.dq hv h3)⟩
  · rw [hg] at h2; cases h2
theorem kget_kput (kvs : List (Key × D)) (k k' : Key) (v : D) : kget (kput kvs k v) k' = if k' = k then some v else kget kvs k' := by
  unfold kput
  split
  · rename_i h
    unfold kget
    induction kvs with
    | nil => simp at h
    | cons p r ih =>
      rw [List.map_cons, List.find?_cons, List.find?_cons]
      by_cases e : p.1 = k
      · by_cases e2 : k' = k
        · subst e2; simp [e]
        · have e3 : ¬ p.1 = k' := fun z => e2 (by rw [← z, e])
          rw [if_pos e]
          simp only [e3, decide_false]
          by_cases h' : (r.any fun kv => decide (kv.1 = k)) = true
          · exact ih h'
          · rw [if_neg e2]
            have hm : (r.map fun kv => if kv.1 = k then (kv.1, v) else kv) = r := by
              have : ∀ q ∈ r, (if q.1 = k then (q.1, v) else q) = q := fun q hq => by
                rw [if_neg]
                intro z
                exact h' (List.any_eq_true.mpr ⟨q, hq, decide_eq_true z⟩)
              conv => rhs; rw [← List.map_id r]
              exact List.map_congr_left this
            rw [hm]
      · rw [if_neg e]
        have h' : (r.any fun kv => decide (kv.1 = k)) = true := by
          rw [List.any_cons, decide_eq_false e, Bool.false_or] at h; exact h
        by_cases e2 : p.1 = k'
        · have e3 : ¬ k' = k := fun z => e (by rw [e2, z])
          simp [e2, e3]
        · simp only [e2, decide_false]
          exact ih h'
  · rename_i h
    have hn : kget kvs k = none := by
      unfold kget
      rw [Option.map_eq_none_iff, List.find?_eq_none]
      intro x hx z
      exact h (List.any_eq_true.mpr ⟨x, hx, z⟩)
    unfold kget at hn ⊢
    rw [List.find?_append]
    by_cases e : k' = k
    · subst e
      rw [Option.map_eq_none_iff] at hn
      rw [hn]; simp
    · have e3 : ¬ k = k' := fun z => e z.symm
      cases q : kvs.find? fun kv => decide (kv.1 = k') with
      | some y => simp [e]
      | none => simp [e, e3]
theorem kput_len (kvs : List (Key × D)) (k : Key) (v : D) : (kput kvs k v).length ≤ kvs.length + 1 := by
  unfold kput
  split
  · rw [List.length_map]; omega
  · rw [List.length_append]; exact Nat.le_refl _
end TD
namespace TP
open PySem TD L2
/-- the option of the piece from a of d + 1 parts -/
def optAt (s : Sc) (ps : List W) (a d : Nat) : Option (Nat × W) := match bestB s (ps.drop (a + 1 + d)) with
  | some r => if goodU s (pcs ps (a, a + 1 + d)) then some (r.1 + 1, trU s (pcs ps (a, a + 1 + d)) ++ (if a + 1 + d < ps.length then 39 :: r.2 else [])) else none
  | none => none
theorem fm_congr {α β : Type} {f g : α → Option β} : ∀ {l : List α}, (∀ x ∈ l, f x = g x) → l.filterMap f = l.filterMap g
  | [], _ => rfl
  | x :: l, h => by rw [List.filterMap_cons, List.filterMap_cons, h x List.mem_cons_self, fm_congr fun y hy => h y (List.mem_cons_of_mem _ hy)]
theorem bestB_opts {s : Sc} {ps : List W} {a : Nat} (h : a < ps.length) : bestB s (ps.drop a) = minO ((List.range (ps.length - a)).filterMap (optAt s ps a)) := by
  have e : ps.drop a = ps[a] :: ps.drop (a + 1) := List.drop_eq_getElem_cons h
  rw [e, bestB_cons]
  congr 1
  unfold optsB
  have hl : (ps[a] :: ps.drop (a + 1)).length = ps.length - a := by rw [← e, List.length_drop]
  rw [hl]
  refine fm_congr fun d hd => ?_
  have hd := List.mem_range.mp hd
  rw [bests_at s _ d (by rw [List.length_drop]; omega), List.drop_drop, ← e]
  unfold optAt
  have e2 : (ps.drop a).take (d + 1) = pcs ps (a, a + 1 + d) := by
    unfold pcs
    congr 1
    show d + 1 = a + 1 + d - a
    omega
  rw [e2]
  have e3 : (d + 1 < ps.length - a) ↔ (a + 1 + d < ps.length) := by omega
  cases bestB s (ps.drop (a + 1 + d)) with
  | none => rfl
  | some r => simp only [e3]
theorem joinM_len : ∀ ps : List W, (joinM ps).length ≤ ps.flatten.length + ps.length
  | [] => Nat.le_refl _
  | p :: r => by
    have ih := joinM_len r
    rw [joinM_cons, List.flatten_cons, List.length_append, List.length_append, List.length_cons]
    split
    · simp; omega
    · rw [List.length_cons]; omega
theorem bestB_len {s : Sc} {l : List W} {r : Nat × W} (hv : ∀ a ∈ l, (val s a).length ≤ 3) (h : bestB s l = some r) : r.2.length ≤ 4 * l.length := by
  obtain ⟨us, hd, rfl⟩ := ((bestB_spec s _ l (Nat.le_refl _)).2 r h).1
  have h1 := joinM_len (us.map (trU s))
  have h2 : ((us.map (trU s)).flatten).length = (trU s l).length := by
    rw [← hd.flat]
    have : ∀ us : List (List W), (us.map (trU s)).flatten = trU s us.flatten := fun us => by
      induction us with
      | nil => rfl
      | cons u us ih =>
        rw [List.map_cons, List.flatten_cons, ih, List.flatten_cons]
        unfold trU
        rw [List.map_append, List.flatten_append]
    rw [this]
  have h3 : (trU s l).length ≤ l.length * 3 := by
    have := flat_le (l := l.map (val s)) (b := 3) fun y hy => by
      obtain ⟨q, hq, rfl⟩ := List.mem_map.mp hy
      exact hv q hq
    rw [List.length_map] at this
    exact this
  have h4 : us.length ≤ l.length := by
    rw [← hd.flat]
    have : ∀ us : List (List W), (∀ u ∈ us, u ≠ []) → us.length ≤ us.flatten.length := fun us => by
      induction us with
      | nil => intro _; exact Nat.le_refl _
      | cons u us ih =>
        intro hu
        have := ih fun x hx => hu x (List.mem_cons_of_mem _ hx)
        have := List.length_pos_iff.mpr (hu u List.mem_cons_self)
        rw [List.flatten_cons, List.length_append, List.length_cons]; omega
    exact this us fun u hu => (hd.ok u hu).1
  rw [List.length_map] at h1
  show (joinM (us.map (trU s))).length ≤ _
  omega
def isMText (v : D) : Bool := isStr v 0 80 fun c => decide (c ∈ lowers ++ [39])
theorem isMText_len {x : W} (h : isMText (ds x) = true) : x.length ≤ 80 := by
  unfold isMText isStr at h
  simp only [tl_sw, Bool.and_eq_true, decide_eq_true_eq] at h
  omega
theorem mtext_of {x : W} (h : x.length ≤ 80) (h2 : ∀ c ∈ x, c ∈ lowers ∨ c = 39) : isMText (ds x) = true := by
  unfold isMText isStr
  simp only [tl_sw, Bool.and_eq_true, decide_eq_true_eq, List.all_eq_true]
  refine ⟨⟨by omega, by omega⟩, fun c hc => ?_⟩
  rw [List.mem_append, List.mem_singleton]
  exact h2 c hc
end TP
set_option Elab.async false
set_option linter.all false
set_option maxRecDepth 100000
set_option maxHeartbeats 400000
/-! Cuts at joints, plainly. -/
namespace TP
open TD
theorem valid_take {s : Sc} : ∀ {ps B : List W} (c : Nat), Valid s B ps → Valid s B (ps.take c)
  | [], _, _, _ => by simp [Valid]
  | _ :: _, _, 0, _ => trivial
  | a :: r, B, c + 1, h => ⟨h.1, h.2.1, valid_take c h.2.2⟩
theorem split_valid {s : Sc} (h3 : ∀ p ∈ s, 1 ≤ p.1.length ∧ p.1.length ≤ 3) {ps : List W} : Valid s [] ps ↔ split s ps.flatten = some ps := by
  rw [valid_iff h3 (by simp)]
  exact ⟨fun h => h.2, fun h => ⟨by simp, h⟩⟩
theorem split_take {s : Sc} (h3 : ∀ p ∈ s, 1 ≤ p.1.length ∧ p.1.length ≤ 3) {x : W} {ps : List W} (h : split s x = some ps) (c : Nat) : split s (ps.take c).flatten = some (ps.take c) := by
  have e := (split_len _ (Nat.le_refl _) h).2
  rw [← e] at h
  exact (split_valid h3).mp (valid_take c ((split_valid h3).mpr h))
theorem split_drop {s : Sc} : ∀ {ps : List W} {x : W} (c : Nat), split s x = some ps → split s (ps.drop c).flatten = some (ps.drop c)
  | ps, x, 0, h => by
    have e := (split_len _ (Nat.le_refl _) h).2
    rw [List.drop_zero, e]; exact h
  | [], x, c + 1, h => split_nil
  | a :: r, x, c + 1, h => by
    have hx : x ≠ [] := fun e => by rw [e, split_nil] at h; cases h
    cases q : longest s x with
    | none => rw [split_none hx q] at h; cases h
    | some k =>
      rw [split_some hx q] at h
      obtain ⟨r', h1, h2⟩ := Option.map_eq_some_iff.mp h
      injection h2 with _ h2
      rw [h2] at h1
      exact split_drop c h1
def joints (ps : List W) : List Nat := (List.range (ps.length + 1)).map fun c => ((ps.take c).flatten).length
theorem joint_cut {ps : List W} {c : Nat} : ps.flatten.take ((ps.take c).flatten).length = (ps.take c).flatten ∧ ps.flatten.drop ((ps.take c).flatten).length = (ps.drop c).flatten := by
  have e : ps.flatten = (ps.take c).flatten ++ (ps.drop c).flatten := by rw [← List.flatten_append, List.take_append_drop]
  constructor
  · conv => lhs; rw [e]
    exact List.take_left
  · conv => lhs; rw [e]
    exact List.drop_left
theorem cut_joint {s : Sc} (h3 : ∀ p ∈ s, 1 ≤ p.1.length ∧ p.1.length ≤ 3) {x : W} {ps us vs : List W} {n : Nat} (hn : n ≤ x.length) (h : split s x = some ps) (hu : split s (x.take n) = some us) (hv : split s (x.drop n) = some vs) : us ++ vs = ps ↔ n ∈ joints ps := by
  have eu := (split_len _ (Nat.le_refl _) hu).2
  have ex := (split_len _ (Nat.le_refl _) h).2
  constructor
  · intro e
    refine List.mem_map.mpr ⟨us.length, List.mem_range.mpr (by rw [← e, List.length_append]; omega), ?_⟩
    rw [← e, List.take_left, eu, List.length_take]
    omega
  · intro hm
    obtain ⟨c, hc, e⟩ := List.mem_map.mp hm
    have j := joint_cut (ps := ps) (c := c)
    rw [e, ex] at j
    rw [j.1] at hu
    rw [j.2] at hv
    rw [split_take h3 h c] at hu
    rw [split_drop c h] at hv
    cases hu
    cases hv
    exact List.take_append_drop c ps
theorem trans_joint {s : Sc} {x : W} {ps us vs : List W} {n : Nat} (h : split s x = some ps) (hu : split s (x.take n) = some us) (hv : split s (x.drop n) = some vs) (e : us ++ vs = ps) : trU s us ++ trU s vs = trU s ps := by
  rw [← e]
  unfold trU
  rw [List.map_append, List.flatten_append]
/-! marks and places -/
def placesW (s : Sc) (ps : List W) : List Nat := (List.range (ps.length - 1)).map fun c => (trU s (ps.take (c + 1))).length
theorem joinM_two {x y : W} (hx : 39 ∉ x) (hy : 39 ∉ y) : splitC 39 (x ++ 39 :: y) = [x, y] := by
  rw [splitC_app hx, splitC_last hy]
theorem no39 {s : Sc} {u : List W} (h39 : ∀ a ∈ u, 39 ∉ val s a) : 39 ∉ trU s u := by
  intro hm
  obtain ⟨y, hy, hm⟩ := List.mem_flatten.mp hm
  obtain ⟨a, ha, rfl⟩ := List.mem_map.mp hy
  exact h39 a ha hm
theorem bent_place {s : Sc} {ps : List W} {n : Nat} (hv : ∀ a ∈ ps, 1 ≤ (val s a).length) (h39 : ∀ a ∈ ps, 39 ∉ val s a) (hn : n ≤ (trU s ps).length) (h : isMark s ps ((trU s ps).take n ++ 39 :: (trU s ps).drop n) = true) : n ∈ placesW s ps := by
  obtain ⟨us, hd, e⟩ := (isMark_iff hv h39).mp h
  have h0 := no39 h39
  have hne : us ≠ [] := fun z => by rw [z] at e; simp [joinM] at e
  have hus : ∀ p ∈ us.map (trU s), 39 ∉ p := fun p hp => by
    obtain ⟨u, hu, rfl⟩ := List.mem_map.mp hp
    refine no39 fun a ha => h39 a ?_
    rw [← hd.flat]; exact List.mem_flatten.mpr ⟨u, hu, ha⟩
  have e2 := split_joinM (by simpa using hne) hus
  rw [e, joinM_two (fun z => h0 (List.mem_of_mem_take z)) (fun z => h0 (List.mem_of_mem_drop z))] at e2
  have e3 := congrArg List.length e2
  rw [List.length_map] at e3
  match us, hd, e2, e3 with
  | [], _, _, e3 => simp at e3
  | [_], _, _, e3 => simp at e3
  | _ :: _ :: _ :: _, _, _, e3 => simp at e3
  | [u, v], hd, e2, _ =>
    simp only [List.map_cons, List.map_nil, List.cons.injEq, and_true] at e2
    have hf := hd.flat
    simp only [List.flatten_cons, List.flatten_nil, List.append_nil] at hf
    have hu := List.length_pos_iff.mpr (hd.ok u (by simp)).1
    have hv' := List.length_pos_iff.mpr (hd.ok v (by simp)).1
    refine List.mem_map.mpr ⟨u.length - 1, List.mem_range.mpr (by rw [← hf, List.length_append]; omega), ?_⟩
    have e4 : ps.take u.length = u := by rw [← hf]; exact List.take_left
    rw [show u.length - 1 + 1 = u.length by omega, e4, ← e2.1, List.length_take]
    omega
/-! reading step by step -/
def maxI (x : Nat) (ys : List Nat) : Nat := ys.foldl max x
theorem maxI_spec (x : Nat) (ys : List Nat) : maxI x ys ∈ x :: ys ∧ ∀ y ∈ x :: ys, y ≤ maxI x ys := by
  unfold maxI
  induction ys generalizing x with
  | nil => exact ⟨List.mem_cons_self, fun y hy => by rw [List.mem_singleton.mp hy]; exact Nat.le_refl _⟩
  | cons y ys ih =>
    rw [List.foldl_cons]
    obtain ⟨i1, i2⟩ := ih (max x y)
    refine ⟨?_, fun z hz => ?_⟩
    · rcases List.mem_cons.mp i1 with e | h
      · rw [e]
        rcases Nat.le_total x y with q | q
        · rw [Nat.max_eq_right q]; simp
        · rw [Nat.max_eq_left q]; simp
      · simp [h]
    · have h0 := i2 (max x y) List.mem_cons_self
      rcases List.mem_cons.mp hz with rfl | hz
      · omega
      · rcases List.mem_cons.mp hz with rfl | hz
        · omega
        · exact i2 z (List.mem_cons_of_mem _ hz)
def fitL (s : Sc) (x : W) : List Nat := (s.filter fun p => starts x p.2).map fun p => p.2.length
theorem fitL_max {s : Sc} (hs : Scheme s) {x k : W} (h : longest (readT s) x = some k) : ∃ n r, fitL s x = n :: r ∧ maxI n r = k.length := by
  have l := longest_len h
  obtain ⟨p, hp, e⟩ := readT_isSome.mp l.2.2.2.2
  have hm : k.length ∈ fitL s x := by
    refine List.mem_map.mpr ⟨p, List.mem_filter.mpr ⟨hp, starts_iff.mpr ⟨x.drop k.length, ?_⟩⟩, by rw [e]⟩
    rw [e]
    conv => rhs; lhs; rw [l.2.2.2.1]
    exact (List.take_append_drop _ _).symm
  cases q : fitL s x with
  | nil => rw [q] at hm; simp at hm
  | cons n r =>
    refine ⟨n, r, rfl, ?_⟩
    obtain ⟨m1, m2⟩ := maxI_spec n r
    rw [q] at hm
    have h1 := m2 _ hm
    rw [← q] at m1
    obtain ⟨p', hp', e'⟩ := List.mem_map.mp m1
    obtain ⟨hp1, hp2⟩ := List.mem_filter.mp hp'
    obtain ⟨z, hz⟩ := starts_iff.mp hp2
    have t3 := (hs.tgt1 p' hp1)
    refine Nat.le_antisymm (Nat.le_of_not_lt fun hlt => ?_) h1
    have htop := (longestN_top (t := readT s) (x := x) (Nat.min_le_right 3 _)).1 k h (maxI n r) hlt (by rw [← e', hz, List.length_append]; omega)
    have ht : x.take (maxI n r) = p'.2 := by rw [← e', hz]; exact List.take_left
    rw [ht] at htop
    have := readT_isSome.mpr ⟨p', hp1, rfl⟩
    rw [htop] at this; cases this
theorem mapped_key {t : Tb} {x k : W} (h : longest t x = some k) : mapped t k = some (val t k) := by
  have l := longest_len h
  have hk : k ≠ [] := fun e => by rw [e] at l; simp at l
  have h2 : longest t k = some k := longest_eq l.1 l.2.2.1 ⟨[], by simp⟩ l.2.2.2.2 fun m h1 _ h3 => by omega
  rw [mapped_some hk h2, List.drop_length, mapped_nil]
  simp
theorem mapped_step {t : Tb} {x y : W} (hx : x ≠ []) (h : mapped t x = some y) : ∃ k y', longest t x = some k ∧ mapped t (x.drop k.length) = some y' ∧ y = val t k ++ y' := by
  cases q : longest t x with
  | none => rw [mapped_none hx q] at h; cases h
  | some k =>
    rw [mapped_some hx q] at h
    obtain ⟨y', h1, h2⟩ := Option.map_eq_some_iff.mp h
    exact ⟨k, y', rfl, h1, h2.symm⟩
end TP
set_option Elab.async false
set_option linter.all false
set_option maxRecDepth 100000
set_option maxHeartbeats 400000
/-! Lists of whole numbers and of words, compared. -/
namespace TP
open TD
theorem joinM_mem : ∀ {ps : List W} {c : Nat}, c ∈ joinM ps → c = 39 ∨ ∃ p ∈ ps, c ∈ p
  | [], c, h => by simp [joinM] at h
  | p :: r, c, h => by
    rw [joinM_cons] at h
    rcases List.mem_append.mp h with h | h
    · exact .inr ⟨p, List.mem_cons_self, h⟩
    · split at h
      · cases h
      · rcases List.mem_cons.mp h with h | h
        · exact .inl h
        · rcases joinM_mem h with h | ⟨q, hq, h⟩
          · exact .inl h
          · exact .inr ⟨q, List.mem_cons_of_mem _ hq, h⟩
end TP
namespace TD
open PySem PySem.Spec PyProof.Rows L2 TP
theorem eqv_I (a b : Nat) : PyData.eqv (.int (a : Int)) (.int (b : Int)) = decide (a = b) := by
  rw [Bool.eq_iff_iff]; simp [PyData.eqv]; omega
theorem any_int (l : List Nat) (n : Nat) : ((l.map fun (m : Nat) => PyData.int (m : Int)).any fun z => PyData.eqv z (.int (n : Int))) = decide (n ∈ l) := by
  induction l with
  | nil => rfl
  | cons a l ih =>
    rw [List.map_cons, List.any_cons, ih, eqv_I]
    by_cases h : a = n
    · subst h; simp
    · have : ¬ n = a := fun z => h z.symm
      simp [h, this]
theorem depth_int (l : List Nat) : PyData.depthAll (l.map fun (m : Nat) => PyData.int (m : Int)) = 0 := by
  induction l with
  | nil => rfl
  | cons a l ih => show max 0 (PyData.depthAll (l.map fun (m : Nat) => PyData.int (m : Int))) = 0; rw [ih]; rfl
theorem eqv_W : ∀ a b : List W, PyData.eqv (encW a) (encW b) = decide (a = b)
  | [], [] => rfl
  | [], _ :: _ => rfl
  | _ :: _, [] => rfl
  | x :: a, y :: b => by
    have ih := eqv_W a b
    have h : PyData.eqv (encW (x :: a)) (encW (y :: b)) = (PyData.eqv (ds x) (ds y) && PyData.eqv (encW a) (encW b)) := by
      simp only [PyData.eqv, encW, List.map_cons]
      rfl
    rw [h, ih, eqv_ds]
    by_cases h1 : x = y <;> by_cases h2 : a = b <;> simp [h1, h2]
section
variable {c : Cz}
theorem EvA.is {ta : TA} {ρ xs ys : List DV} (h : EvA c ta ρ xs) (e : xs = ys) : EvA c ta ρ ys := e ▸ h
theorem rx_eqWs {a b : List W} : RX c rEqQ (.d (encW a)) (.d (encW b)) (.d (.bool (decide (a = b)))) := by
  have := rx_eq (c := c) (d := encW a) (e := encW b) (Nat.le_trans (Nat.min_le_left _ _) (depth_w a))
  rw [eqv_W] at this; exact this
theorem rx_inI {g : Bool → Bool} {l : List Nat} {n : Nat} : RX c (rInU g) (.d (.int (n : Int))) (.d (.list (l.map fun (m : Nat) => PyData.int (m : Int)))) (.d (.bool (g (decide (n ∈ l))))) := by
  have := rx_inList (c := c) (g := g) (d := .int (n : Int)) (xs := l.map fun (m : Nat) => PyData.int (m : Int)) (by rw [depth_int]; exact Nat.le_trans (Nat.min_le_left _ _) (Nat.zero_le _))
  rw [any_int] at this; exact this
theorem maxD_I (x : Nat) (ys : List Nat) : PySem.W.maxD (.int (x : Int)) (ys.map fun (n : Nat) => .int (n : Int)) = .int (maxI x ys : Nat) := by
  unfold PySem.W.maxD maxI
  induction ys generalizing x with
  | nil => rfl
  | cons y ys ih =>
    rw [List.map_cons, List.foldl_cons, List.foldl_cons, PySem.W.dataLt_int]
    by_cases h : (x : Int) < (y : Int)
    · rw [if_pos (by simpa using h), Nat.max_eq_right (by omega)]; exact ih y
    · rw [if_neg (by simpa using h), Nat.max_eq_left (by omega)]; exact ih x
theorem alike_I (l : List Nat) : PySem.W.AlikeAll (l.map fun (n : Nat) => PyData.int (n : Int)) := by
  refine ⟨fun x hx y hy => ?_, fun x hx => ?_⟩
  · obtain ⟨_, _, rfl⟩ := List.mem_map.mp hx
    obtain ⟨_, _, rfl⟩ := List.mem_map.mp hy
    rfl
  · obtain ⟨_, _, rfl⟩ := List.mem_map.mp hx
    intro z; cases z
theorem rc_maxI {x : Nat} {ys : List Nat} : RCX c (rExQ PySem.W.maxD) [.d (.list ((x :: ys).map fun (n : Nat) => .int (n : Int)))] (.d (.int (maxI x ys : Nat))) := by
  have := rc_ex (c := c) (f := PySem.W.maxD) (x := .int (x : Int)) (ys := ys.map fun (n : Nat) => .int (n : Int)) (alike_I (x :: ys)) (by have := depth_int (x :: ys); rw [List.map_cons] at this; omega)
  rw [maxD_I] at this; exact this
end
end TD
set_option Elab.async false
set_option linter.all false
set_option maxRecDepth 100000
set_option maxHeartbeats 400000
/-! enumerate of a list. -/
namespace TD
open PySem PySem.Spec PyProof.Rows L2 TP
section
variable {X : Cx} {K : PySem.W.Frag} {e : Expr} {ta : TA} {pos : Pos} {c : Cz} {ρ : List DV}
theorem ki_enum {p tpos : Pos} {elts : List Expr} {kk : Nat} (hK : X.K = K) (hg : Gl X "enumerate") (hm : X.mg "enumerate" = none) (ha : PA X [e] ta)
    (hs : starEach [e] X.env = [(false, eval e X.env)] := by rfl) :
    PI X (.Tuple elts kk tpos) (.Call (.Name "enumerate" p) [e] [] pos) (iEnum K ta) := hK ▸ pi_enum hg hm ha hs
def enumD (xs : List D) : List (Nat × D) := (List.range xs.length).zip xs
theorem enumD_get {xs : List D} {i : Nat} {d : D} (h : xs[i]? = some d) : (enumD xs)[i]? = some (i, d) := by
  unfold enumD
  have hl : i < xs.length := by
    rcases Nat.lt_or_ge i xs.length with q | q
    · exact q
    · rw [List.getElem?_eq_none q] at h; cases h
  exact zip_get (List.getElem?_range hl) h
theorem itOk_enum {M : List Addr} {H2 : Hp} {a : Addr} {vs : List V} {xs : List D} (h1 : hid M H2 a = some (.lst vs)) (h2 : DqAll (hid M H2) vs xs) :
    ItOk M H2 (Ite K a) ((enumD xs).map fun p => .pr (.int (p.1 : Int)) p.2) where
  go := fun M' i H' s l hi => by
    unfold enumD at hi
    rw [List.length_map, List.length_zip, List.length_range, ← dqAll_len h2] at hi
    have a1 : i < vs.length := by omega
    exact ⟨vs, vs[i], .inl (.inl (hid_some (s _ _ h1)).2), List.getElem?_eq_getElem a1⟩
  stop := fun M' i H' s l hi => by
    unfold enumD at hi
    rw [List.length_map, List.length_zip, List.length_range, ← dqAll_len h2] at hi
    exact ⟨vs, .inl (.inl (hid_some (s _ _ h1)).2), by omega⟩
  yld := fun M' i H' v H'' s l _ y => by
    obtain ⟨T, x, rfl, hT, rfl, y1⟩ := y
    have e1 := y1 vs (.inl (.inl (hid_some (s _ _ h1)).2))
    obtain ⟨d, f1, f2⟩ := dqAll_get h2 e1
    have sn := Same.hid (M := M') (same_new hT (.tup [.int (i : Nat), x]))
    exact ⟨same_new hT _, .pr (.int (i : Int)) d, by rw [List.getElem?_map, enumD_get f1]; rfl, T, _, x, rfl, by rw [hid_upd_out (l.new hT)]; exact upd_same, Dq.int _, dq_mono sn _ _ (dq_mono s _ _ f2)⟩
theorem ei_enum {xs : List D} (h : EvA c ta ρ [.d (.list xs)]) : EvI c (iEnum K ta) ρ ((enumD xs).map fun p => .pr (.int (p.1 : Int)) p.2) := fun H1 σ a R r => h H1 σ a _ fun vs H2 s2 o2 => by
  obtain ⟨v, rfl, o⟩ := args1 o2
  obtain ⟨a1, vs, rfl, h1, h2⟩ := dq_list o
  exact ⟨a1, vs, rfl, sqL_of h1, r _ H2 s2 (itOk_enum h1 h2)⟩
end
section
variable {K : PySem.W.Frag} {M : List Addr} {t : Tw} {Hb H : Hp} {σ : L2.St} {ρ : List DV} {D : Ends} {tu tz : TS}
theorem TownAt.gr {T : List Addr} {H H' : Hp} (h : TownAt t H) (g : Gr T H H') (n : ∀ b ∈ T, b ∉ t.L ∧ ∀ o, H b = some o → Plain o) : TownAt t H' := t.gr H H' T h g n
/-- the last loop -/
theorem l_forS {wi : TI} {g : TG} {α : Type} {ys : List α} {it : α → IV} {js : List Nat} {up : α → List DV → List DV} (s : StaL K M t Hb H σ ρ) (hi : EvI (cz K M H) wi ρ (ys.map it)) (hg : ∀ y ∈ ys, ∀ ρ', GOk K js g (it y) ρ' (up y ρ'))
    (R : List DV → Prop) (h0 : R ρ)
    (hs : ∀ y σ' ρ' H' Hc, y ∈ ys → R ρ' → StaL K M t Hc H' σ' (up y ρ') → tu { D with nx := LS K M (fun ρ' H' => R ρ' ∧ TownAt t H') Hc, ct := LS K M (fun ρ' H' => R ρ' ∧ TownAt t H') Hc, bk := D.nx } σ' H')
    (hd : ∀ σ' ρ' H', R ρ' → StaL K M t Hb H' σ' ρ' → D.nx σ' H') : tFor wi g tu D σ H := by
  refine s_for s.sta hi hg (fun _ ρ' H' => R ρ' ∧ TownAt t H') (fun H1 s1 => ⟨h0, s.tw.same s1⟩) ?_ ?_
  · rintro i y σ' ρ' H' H3 Hc hy sb sm ⟨r, w⟩ s3 S3
    exact hs y σ' ρ' H3 Hc (List.mem_of_getElem? hy) r ⟨⟨S3, s.tm, w.same s3⟩, sm.trans (Same.hid s3)⟩
  · rintro σ' ρ' H' sm S3 ⟨r, w⟩
    exact hd σ' ρ' H' r ⟨⟨S3, s.tm, w⟩, s.sb.trans sm⟩
end
section
variable {K : PySem.W.Frag} {M : List Addr} {H : Hp} {σ : L2.St} {ρ : List DV} {D : Ends} {te : TE} {tz : TS} {i : Nat}
/-- w += v -/
theorem s_augS {w v : W} (s : Sta K M H σ ρ) (hi : ρ[i]? = some (.d (ds w))) (h : EvX (cz K M H) te ρ (.d (ds v))) (hz : w.length + v.length ≤ 1000000) (k : ∀ σ' H', Same H H' → Sta K M H' σ' (ρ.set i (.d (ds (w ++ v)))) → D.nx σ' H') :
    tAug i te (fun x y H Q => rI0 (fun i j => V.int (i + j)) x y H Q ∨ ∃ i j, x = V.str i ∧ y = V.str j ∧ i.length + j.length ≤ sizeLine ∧ Q (V.str (i ++ j)) H) D σ H := by
  have e := ev_vd (c := cz K M H) hi H σ s.at (fun x H2 => x = .str (sw w)) fun v H2 s2 o2 => dq_str o2
  obtain ⟨x, e1, e2⟩ := e
  subst e2
  refine ⟨_, e1, h H σ s.at _ fun y H2 s2 o2 => .inr ⟨sw w, sw v, rfl, dq_str o2, by rw [sw_len, sw_len]; exact Nat.le_trans hz (by decide), ?_⟩⟩
  have e3 : sw w ++ sw v = sw (w ++ v) := sw_app w v
  rw [e3]
  exact k _ H2 s2 ((s.same s2).set (x := .d (ds (w ++ v))) (Dq.str _))
theorem q_augS {w v : W} (s : Sta K M H σ ρ) (hi : ρ[i]? = some (.d (ds w))) (h : EvX (cz K M H) te ρ (.d (ds v))) (hz : w.length + v.length ≤ 1000000) (k : ∀ σ' H', Same H H' → Sta K M H' σ' (ρ.set i (.d (ds (w ++ v)))) → tz D σ' H') :
    tSeq (tAug i te (fun x y H Q => rI0 (fun i j => V.int (i + j)) x y H Q ∨ ∃ i j, x = V.str i ∧ y = V.str j ∧ i.length + j.length ≤ sizeLine ∧ Q (V.str (i ++ j)) H)) tz D σ H :=
  s_augS (D := { D with nx := tz D }) s hi h hz k
end
end TD
set_option Elab.async false
set_option linter.all false
set_option maxRecDepth 100000
set_option maxHeartbeats 1000000
/-! Sets of texts, and what sorted makes of them. -/
namespace TSt
open PySem PySem.Spec PyProof.Rows L2
def keyS (e : Int × Value) : Str := match e.2 with | .str k _ => k | _ => Str.empty
def GoodS (w : World) (e : Int × Value) : Prop := ∃ k tk, e.2 = Value.str k tk ∧ e.1 = hashStr w k
/-- the set of texts at a: S its members, n their number -/
def SetRS (w : World) (h : Heap) (a : Addr) (S : Str → Bool) (n : Nat) : Prop :=
  ∃ o es ep t, h.get? a = some o ∧ o.ExactSet ∧ o.data = .set es ep t ∧ ((∀ e ∈ es.toList, GoodS w e) ∧ (es.toList.map keyS).Nodup ∧ ∀ k, S k = true ↔ k ∈ es.toList.map keyS) ∧
    es.size < scanBound ∧ t.fits es.size = true ∧ es.size = n ∧ Ris t.place.toList ∧ (w.params.followText "set-order" = true ∨ t.led = true)
section
variable {P : Program} {w : World} {h h' : Heap} {a : Addr} {S : Str → Bool} {n : Nat}
theorem SetRS.at (R : SetRS w h a S n) (k : ∀ o, h.get? a = some o → h'.get? a = some o) : SetRS w h' a S n := by
  obtain ⟨o, es, ep, t, ho, r⟩ := R
  exact ⟨o, es, ep, t, k o ho, r⟩
theorem SetRS.congr {S' : Str → Bool} {m : Nat} (R : SetRS w h a S n) (e : ∀ k, S' k = S k) (em : n = m) : SetRS w h a S' m := by
  have q : S' = S := funext e
  rw [q, ← em]; exact R
theorem good_is {e : Int × Value} (g : GoodS w e) (k : Str) : (strKind P w).is k e.2 = true ↔ keyS e = k := by
  obtain ⟨k0, tk, h1, _⟩ := g
  unfold keyS
  rw [h1]
  show ((k0 == k) = true) ↔ k0 = k
  exact beq_iff_eq
theorem is_self (k : Str) (tk : Tok) : (strKind P w).is k (.str k tk) = true := beq_self_eq_true k
theorem good_elems {l : List (Int × Value)} (g : ∀ e ∈ l, GoodS w e) : ElemsOf (strKind P w) l := fun e he => by
  obtain ⟨k, tk, h1, h2⟩ := g e he
  exact ⟨⟨k, by rw [h1]; exact is_self k tk, h2⟩, by rw [h1] <;> rfl⟩
theorem good_mem {l : List (Int × Value)} (g : ∀ e ∈ l, GoodS w e) (k : Str) : k ∈ l.map keyS ↔ ∃ e ∈ l, (strKind P w).is k e.2 = true := by
  rw [List.mem_map]
  exact ⟨fun ⟨e, he, q⟩ => ⟨e, he, (good_is (g e he) k).2 q⟩, fun ⟨e, he, q⟩ => ⟨e, he, (good_is (g e he) k).1 q⟩⟩
theorem SetRS.setOf (R : SetRS w h a S n) : h.SetOf (strKind P w) a S n := by
  obtain ⟨o, es, ep, t, ho, hx, hd, ⟨g, nd, hm⟩, hb, hf, hn, _⟩ := R
  exact ⟨o, es, ep, t, ho, hx, hd, good_elems g, fun k => (hm k).trans (good_mem g k), hb, hf, hn⟩
end
section
variable {P : Program} {w : World} {A : Around} {E : Value → Shared → Prop} {s : Shared} {a : Addr} {S : Str → Bool} {n : Nat}
/-- the entries stored, the table laid anew where it is too full -/
theorem tail {g : Bool → Sem Unit} (hg : ∀ (b : Bool) (s₁ : Shared) (Q' : Unit → Shared → Prop), Q' () s₁ → wpAny (model P w) A (g b) Q' E s₁)
    {o : Obj} {es : Array (Int × Value)} {ep : Nat} {t : SetTable} (ho : s.heap.get? a = some o) (hex : o.ExactSet) (hd : o.data = .set es ep t)
    {es1 : Array (Int × Value)} {t2 : SetTable} {S' : Str → Bool} (g1 : (∀ e ∈ es1.toList, GoodS w e) ∧ (es1.toList.map keyS).Nodup ∧ ∀ k, S' k = true ↔ k ∈ es1.toList.map keyS)
    (hb1 : es1.size < scanBound) (hf2 : t2.fits es1.size = true) (hr : Ris t2.place.toList) (hl : w.params.followText "set-order" = true ∨ t2.led = true) {wasDummy : Bool} {R : Option Bool → Shared → Prop}
    (hR : ∀ h', Heap.SameBut a s.heap h' → SetRS w h' a S' es1.size → R (some true) { s with heap := h' }) :
    wpAny (model P w) A (do
        storeSet a es1 t2
        if (!wasDummy && t2.tooFull) = true then do
            g (relayAll t2 es1 (SetTable.grown es1.size)).2.2
            storeSet a (relayAll t2 es1 (SetTable.grown es1.size)).1 (relayAll t2 es1 (SetTable.grown es1.size)).2.1
            pure (some true)
          else pure (some true)) R E s := by
  refine wpAny_bind (wpAny_storeSet_of ho hd ?_ (fits_of_scanBound hb1))
  have ho1 := store_at (es' := es1) (t' := t2) ho hd
  have sb1 := Heap.SameBut.update s.heap a (Obj.putSet es1 t2)
  split
  · have pm := relayAll_perm t2 es1 (SetTable.grown es1.size)
    have hf3 := relayAll_fits t2 es1 (SetTable.grown es1.size)
    have hr3 := relayAll_ris t2 es1 (SetTable.grown es1.size)
    have hl3 := relayAll_led t2 es1 (SetTable.grown es1.size)
    generalize relayAll t2 es1 (SetTable.grown es1.size) = Z at pm hf3 hr3 hl3 ⊢
    obtain ⟨es2, t3, gave⟩ := Z
    dsimp only at pm hf3 hr3 hl3 ⊢
    have hsz : es2.size = es1.size := by rw [← Array.length_toList, pm.length_eq, Array.length_toList]
    have hb2 : es2.size < scanBound := by rw [hsz]; exact hb1
    refine wpAny_bind (hg _ _ _ ?_)
    refine wpAny_bind (wpAny_storeSet_of ho1 rfl ?_ (fits_of_scanBound hb2))
    have ho2 := store_at (es' := es2) (t' := t3) ho1 rfl
    refine wpAny_pure (hR _ (sb1.trans (Heap.SameBut.update _ a _)) ?_)
    obtain ⟨g1, nd1, m1⟩ := g1
    exact ⟨_, es2, _, t3, ho2, hex, rfl, ⟨fun e he => g1 e (pm.mem_iff.mp he), (pm.map keyS).nodup_iff.mpr nd1, fun k => (m1 k).trans (pm.map keyS).mem_iff.symm⟩, hb2, hf3, hsz, hr3,
      hl.imp id fun z => by rw [hl3]; exact z⟩
  · exact wpAny_pure (hR _ sb1 ⟨_, es1, _, t2, ho1, hex, rfl, g1, hb1, hf2, rfl, hr, hl⟩)
theorem add_hashed {k : Str} {tk : Tok} {Q : Bool → Shared → Prop} (R : SetRS w s.heap a S n) (room : n + 1 < scanBound)
    (hQ : ∀ h', Heap.SameBut a s.heap h' → SetRS w h' a (fun j => S j || decide (j = k)) (if S k = true then n else n + 1) → Q (!S k) { s with heap := h' }) :
    wpAny (model P w) A (setAddHashed a (.str k tk) ((strKind P w).hash k)) Q E s := by
  obtain ⟨o, es, ep, t, ho, hex, hd, ⟨g, nd, hm⟩, hb, hf, hn, hr, hl⟩ := R
  have hkey : (strKind P w).is k (.str k tk) = true := is_self k tk
  have hsc : (Value.str k tk).scannable = true := rfl
  have hel : ElemsOf (strKind P w) es.toList := good_elems g
  unfold setAddHashed setAddHashedIn
  refine wpAny_holding (wpAny_bind (wpAny_setState_of ho hd hf ?_))
  dsimp only
  rw [byScan_of hsc hb hel]
  simp only [↓reduceIte]
  unfold setAddByScan
  refine wpAny_bind ?_
  refine wpAny_bind (wpAny_rule ?_)
  refine wpAny_bind (wpAny_setScan_of hkey ho hd hf hel ?_)
  cases hfi : List.findIdx? (fun e => (strKind P w).is k e.2) es.toList with
  | some j =>
    dsimp only
    obtain ⟨hj, pj, _⟩ := List.findIdx?_eq_some_iff_getElem.mp hfi
    have hSk : S k = true := (hm k).2 ((good_mem (P := P) g k).2 ⟨es.toList[j], List.getElem_mem hj, pj⟩)
    refine wpAny_pure (wpAny_pure ?_)
    have q := hQ s.heap (Heap.SameBut.refl a s.heap) ⟨o, es, ep, t, ho, hex, hd, ⟨g, nd, fun i => by
      rw [Bool.or_eq_true, decide_eq_true_eq, ← hm i]
      exact ⟨fun z => z.elim id (fun e => e ▸ hSk), .inl⟩⟩, hb, hf, by rw [if_pos hSk]; exact hn, hr, hl⟩
    rw [hSk] at q
    exact q
  | none =>
    dsimp only
    have hnk : k ∉ es.toList.map keyS := fun z => by
      obtain ⟨e, he, q⟩ := (good_mem (P := P) g k).1 z
      have c := List.findIdx?_eq_none_iff.mp hfi e he
      rw [q] at c
      cases c
    have hSk : S k = false := by
      cases q : S k with
      | false => rfl
      | true => exact absurd ((hm k).1 q) hnk
    have hgw : ∀ (b : Bool) {s₁ : Shared} {Q' : Unit → Shared → Prop}, Q' () s₁ → wpAny (model P w) A (match b with | true => rule "set.scan.the-table-gave-way" | false => pure ()) Q' E s₁ :=
      fun b s₁ Q' q => by cases b <;> first | exact wpAny_pure q | exact wpAny_rule q
    have pm := layNew_perm t es ((strKind P w).hash k) (.str k tk)
    have hf1 := layNew_fits t es ((strKind P w).hash k) (.str k tk)
    have hr1 := layNew_ris t es ((strKind P w).hash k) (.str k tk) hr
    have hl1 := layNew_led t es ((strKind P w).hash k) (.str k tk)
    generalize layNew t es ((strKind P w).hash k) (.str k tk) = Z at pm hf1 hr1 hl1 ⊢
    obtain ⟨es1, t1, wasDummy, gave⟩ := Z
    dsimp only at pm hf1 hr1 hl1 ⊢
    rw [Array.toList_push] at pm
    have pc : es1.toList.Perm (((strKind P w).hash k, Value.str k tk) :: es.toList) := pm.trans (List.perm_append_singleton _ _)
    have pk : (es1.toList.map keyS).Perm (k :: es.toList.map keyS) := pc.map keyS
    have g1 : (∀ e ∈ es1.toList, GoodS w e) ∧ (es1.toList.map keyS).Nodup ∧ ∀ i, (S i || decide (i = k)) = true ↔ i ∈ es1.toList.map keyS := by
      refine ⟨fun e he => ?_, pk.nodup_iff.mpr (List.nodup_cons.mpr ⟨hnk, nd⟩), fun i => ?_⟩
      · rcases List.mem_cons.mp (pc.mem_iff.mp he) with z | z
        · rw [z]; exact ⟨k, tk, rfl, rfl⟩
        · exact g e z
      · rw [Bool.or_eq_true, decide_eq_true_eq, hm i, pk.mem_iff, List.mem_cons]
        exact Or.comm
    have hsz : es1.size = n + 1 := by rw [← Array.length_toList, pc.length_eq, List.length_cons, Array.length_toList, hn]
    have hb1 : es1.size < scanBound := by rw [hsz]; exact room
    have hled : w.params.followText "set-order" = true ∨ t1.led = true := hl.imp id fun z => by rw [hl1]; exact z
    have fin : ∀ h', Heap.SameBut a s.heap h' → SetRS w h' a (fun j => S j || decide (j = k)) es1.size → Q true { s with heap := h' } := fun h' sb r => by
      have q := hQ h' sb
      rw [hSk] at q
      rw [hsz] at r
      exact q r
    refine wpAny_bind (hgw _ ?_)
    split
    · refine wpAny_bind ?_
      rw [hashByValue_scannable 8 hsc]
      refine wpAny_pure ?_
      refine tail ?_ ho hex hd g1 hb1 ?_ ?_ ?_ ?_
      · intro b s₁ Q' q; cases b <;> first | exact wpAny_pure q | exact wpAny_rule q
      · first | (split <;> first | exact hf1 | exact SetTable.fits_plain_off hf1) | exact hf1
      · first | (split <;> exact hr1) | exact hr1
      · first | (split <;> exact hled) | exact hled
      · intro h' sb r; dsimp only; exact wpAny_pure (fin h' sb r)
    · refine wpAny_bind (wpAny_pure ?_)
      simp only [↓reduceIte]
      refine tail ?_ ho hex hd g1 hb1 hf1 hr1 hled ?_
      · intro b s₁ Q' q; cases b <;> first | exact wpAny_pure q | exact wpAny_rule q
      · intro h' sb r; dsimp only; exact wpAny_pure (fin h' sb r)
theorem strs_of : ∀ (l : List (Int × Value)), (∀ e ∈ l, GoodS w e) → StrsAre (l.map (·.2)) (l.map keyS)
  | [], _ => .nil
  | e :: l, h => by
    obtain ⟨k, tk, h1, _⟩ := h e List.mem_cons_self
    have e2 : keyS e = k := by unfold keyS; rw [h1]
    rw [List.map_cons, List.map_cons, h1, e2]
    exact .cons k tk (strs_of l fun u hu => h u (List.mem_cons_of_mem _ hu))
end
end TSt
set_option Elab.async false
set_option linter.all false
set_option maxRecDepth 100000
set_option maxHeartbeats 3200000
/-! set(list of texts); sorted of it. -/
namespace TSt
open PySem PySem.Spec PyProof.Rows L2
theorem new_at {w : World} {h : Heap} {a : Addr} {xs : List Str} (ho : h.get? a = some { cls := .type "set", dict := none, data := .set #[] 0 (.fresh 0 0 (!w.params.followText "set-order")) }) : SetRS w h a (fun j => decide (j ∈ xs.take 0)) 0 :=
  ⟨_, #[], 0, _, ho, ⟨rfl, rfl, rfl⟩, rfl, ⟨(fun e he => by simp at he), (by simp), (fun k => by simp)⟩, (by decide), (by rfl), rfl, List.Pairwise.nil, by
    show _ ∨ (!w.params.followText "set-order") = true
    cases w.params.followText "set-order"
    · exact .inr rfl
    · exact .inl rfl⟩
section
variable {P : Program} {w : World} {A : Around} {E : Value → Shared → Prop} {s : Shared}
theorem update_strs {I : Addr} {fp wr : List Addr} {G : Array GenState → Array GenState → Prop} {n : Nat} {Pv : Nat → Value → Prop} {St : Nat → Shared → Prop} {R : Result → Shared → Prop}
    (W : WalksS P w A.in1 I fp wr G n Pv St) (S : Addr) (hSf : S ∉ fp) (xs : List Str) (hn : n = xs.length) (hb : xs.length + 1 < scanBound) (hval : ∀ i v, Pv i v → ∃ k t, xs[i]? = some k ∧ v = .str k t) :
    ∀ (k i : Nat) (s : Shared), n - i = k → i ≤ n → St i s → (∃ c, c ≤ i ∧ SetRS w s.heap S (fun j => decide (j ∈ xs.take i)) c) →
      (∀ s' c, Moved (S :: wr) G s s' → c ≤ n → SetRS w s'.heap S (fun j => decide (j ∈ xs)) c → R (.ok (.ret .none)) s') →
      codeAny (model P w) A (.builtin "set.update.loop" ⟨[.ref S, .ref I], []⟩) R s := by
  have hSw : S ∉ wr := fun h => hSf (W.sub _ h)
  have hsub : ∀ b ∈ wr, b ∈ S :: wr := fun b hb => List.mem_cons_of_mem _ hb
  intro k
  induction k with
  | zero =>
    intro i s hk' hi hst ⟨c, hc, hS⟩ hR
    have hin : i = n := by omega
    subst hin
    refine codeAny_builtin F.entry_set_update_loop ?_
    rw [Around.under_plainId F.plain_set_update_loop _]
    show wpAny _ A.in1 (pyNext (.ref I) >>= _) _ _ s
    refine wpAny_bind (W.done s _ _ hst fun s' hm => ?_)
    show wpAny _ A.in1 (ret Value.none) _ _ s'
    have e : xs.take i = xs := List.take_of_length_le (by omega)
    rw [e] at hS
    exact wpAny_pure (hR s' c (hm.mono hsub) hc (hS.at fun o e => hm.heap S o hSw e))
  | succ k ih =>
    intro i s hk' hi hst ⟨c, hc, hS⟩ hR
    have hlt : i < n := by omega
    refine codeAny_builtin F.entry_set_update_loop ?_
    rw [Around.under_plainId F.plain_set_update_loop _]
    show wpAny _ A.in1 (pyNext (.ref I) >>= _) _ _ s
    refine wpAny_bind (W.item i s _ _ hlt hst fun v s' hP hst' hm => ?_)
    obtain ⟨z, t, hz, rfl⟩ := hval i v hP
    have hS' : SetRS w s'.heap S (fun j => decide (j ∈ xs.take i)) c := hS.at fun o e => hm.heap S o hSw e
    show wpAny _ A.in1 (holding [Value.str z t] (setAdd S (.str z t)) >>= _) _ _ s'
    refine wpAny_bind (wpAny_holding ?_)
    unfold setAdd
    refine wpAny_holding ?_
    refine wpAny_bind ((strKind P w).pyHash (k := z) (is_self _ _) ?_)
    refine add_hashed (s := { s' with toks := s'.toks + 1 }) hS' (by omega) fun h' hsb hS2 => ?_
    have hS3 : SetRS w h' S (fun j => decide (j ∈ xs.take (i + 1))) (if decide (z ∈ xs.take i) = true then c else c + 1) := hS2.congr (fun j => by
      rw [List.take_add_one, hz]
      simp [List.mem_append]) rfl
    have hc3 : (if decide (z ∈ xs.take i) = true then c else c + 1) ≤ i + 1 := by
      split <;> omega
    refine wpAny_pure ⟨plainId_quiet F.plain_set_update_loop _, ih (i + 1) _ (by omega) hlt (W.frame _ s' _ _ hst' (Nat.le_succ _) fun b hb o e => ?_) ⟨_, hc3, hS3⟩ fun s'' c2 hm'' hc'' hS'' => ?_⟩
    · rw [hsb.2 b (fun h : b = S => hSf (by rw [← h]; exact hb))]; exact e
    · refine hR s'' c2 (Moved.trans W.gtrans ((hm.mono hsub).then_heap (Nat.le_succ _) fun b o hb e => ?_) hm'') hc'' hS''
      rw [hsb.2 b (fun h : b = S => hb (by rw [h]; exact List.mem_cons_self))]; exact e
theorem strs_get {us : List Value} {xs : List Str} (h : StrsAre us xs) {i : Nat} {v : Value} (e : us[i]? = some v) : ∃ k t, xs[i]? = some k ∧ v = .str k t := by
  induction h generalizing i with
  | nil => simp at e
  | cons n t hr ih =>
    cases i with
    | zero => simp at e; exact ⟨n, t, rfl, e.symm⟩
    | succ i => simp only [List.getElem?_cons_succ] at e ⊢; exact ih e
theorem call_set_strs {l : Addr} {items : Array Value} (xs : List Str) {Q : Value → Shared → Prop} (hh : A.handled = none) (hl : s.heap.IsList l items) (hit : StrsAre items.toList xs) (hb : xs.length + 1 < scanBound)
    (h : ∀ (h' : Heap) (tk c : Nat), SetRS w h' s.heap.objs.size (fun j => decide (j ∈ xs)) c → c ≤ xs.length → (∀ b o, s.heap.get? b = some o → h'.get? b = some o) → Q (.ref s.heap.objs.size) { s with heap := h', toks := tk }) :
    wpAny (model P w) A (call (.type "set") [.ref l]) Q E s := by
  have hisz : items.size = xs.length := by
    have q := StrsAre.len_eq hit
    rw [Array.length_toList] at q
    exact q
  obtain ⟨c, tl, hmro⟩ := F.called_set.mro
  have hmade := F.called_set.made
  have hsub := F.called_set.sub
  refine wpAny_call (codeAny_of_tree ?_)
  show wpAny _ _ (callAny (.type "set") _) _ _ _
  refine wpAny_pure ⟨Code.quiet_builtin _ (by decide +kernel), codeAny_builtin F.entry_type_call ?_⟩
  rw [Around.under_plain (weight_type_call_type "set" [.ref l] []) rfl]
  have h1 := F.called_set.notType
  have h2 := F.called_set.canCreate
  have hct := F.typeCall_set_1 (.ref l)
  repeat (any_goals (first | assumption | wp_step))

  refine codeAny_mono (code_set_led1 (.ref l) (E := E) (Q₁ := fun obj s₁ => obj = .ref s.heap.objs.size ∧ s₁ = { s with heap := s.heap.push { cls := .type "set", dict := none, data := .set #[] 0 (.fresh 0 0 (!w.params.followText "set-order")) } }) ⟨rfl, rfl⟩) fun r s₁ hr => ?_
  cases r with
  | error e => exact hr
  | ok fl =>
    cases fl with
    | ret obj =>
      obtain ⟨rfl, rfl⟩ := hr
      have hS : (s.heap.push { cls := .type "set", dict := none, data := .set #[] 0 (.fresh 0 0 (!w.params.followText "set-order")) }).get? s.heap.objs.size = some { cls := .type "set", dict := none, data := .set #[] 0 (.fresh 0 0 (!w.params.followText "set-order")) } := Heap.get?_push_size _ rfl
      have hT : Shared.TypeIs { s with heap := s.heap.push { cls := .type "set", dict := none, data := .set #[] 0 (.fresh 0 0 (!w.params.followText "set-order")) } } (.ref s.heap.objs.size) "set" := ⟨_, hS, rfl⟩
      have hli := F.called_set.init.lookup
      have hbi := F.called_set.init.bind (.ref s.heap.objs.size)
      repeat (any_goals (first | assumption | wp_step))

      refine codeAny_mono (codeAny_call_builtin (R := wants (fun r s₂ => r = .none ∧ ∃ h' tk c, s₂ = { s with heap := h', toks := tk } ∧ SetRS w h' s.heap.objs.size (fun j => decide (j ∈ xs)) c ∧ c ≤ xs.length ∧
          (∀ b o, s.heap.get? b = some o → h'.get? b = some o)) E) F.called_set.init.plain F.entry_set_init (check_set_init_1 hT ?_)) fun r₂ s₂ hr₂ => ?_
      · obtain ⟨ol, hol, hcl, nl, hdl⟩ := hl
        obtain ⟨ocls, odict, odata, oslots⟩ := ol
        simp only at hcl hdl
        subst hcl; subst hdl
        have hol' : (s.heap.push { cls := .type "set", dict := none, data := .set #[] 0 (.fresh 0 0 (!w.params.followText "set-order")) }).get? l = some { cls := .type "list", dict := odict, data := .seq items nl, slots := oslots } := Heap.get?_push_of_some _ hol
        have hsls := F.sub_list_set
        have hslf := F.sub_list_frozenset
        have hne : (Value.type "list" == Value.type "dict") = false := by decide
        have hl1 : (s.heap.push { cls := .type "set", dict := none, data := .set #[] 0 (.fresh 0 0 (!w.params.followText "set-order")) }).IsList l items := ⟨_, hol', rfl, nl, rfl⟩
        unfold Builtin.«set.__init__» noKeywords Builtin.Frozenset.updateFrom
        generalize hPI : pyIter = PI
        wp_walk
        subst hPI

        refine wpAny_pyIter_list hl1 ?_
        refine wpAny_bind (wpAny_runValue ?_)
        have hlS : l < s.heap.objs.size := Heap.lt_size hol
        have hh3 : A.in1.in1.in1.handled = none := by simp [hh]
        have hneI : l ≠ (s.heap.push { cls := .type "set", dict := none, data := .set #[] 0 (.fresh 0 0 (!w.params.followText "set-order")) }).objs.size := by
          rw [Heap.size_push]; exact Nat.ne_of_lt (Nat.lt_succ_of_lt hlS)
        have hSf : s.heap.objs.size ∉ [(s.heap.push { cls := .type "set", dict := none, data := .set #[] 0 (.fresh 0 0 (!w.params.followText "set-order")) }).objs.size, l] := by
          rw [Heap.size_push]; simp only [List.mem_cons, List.mem_singleton, List.not_mem_nil, or_false, not_or]
          exact ⟨Nat.ne_of_lt (Nat.lt_succ_self _), Nat.ne_of_gt hlS⟩
        have hval : ∀ (i : Nat) (v : Value), items[i]? = some v → ∃ k t, xs[i]? = some k ∧ v = .str k t := fun i v hv => strs_get hit (by rw [Array.getElem?_toList]; exact hv)
        refine update_strs ((Walks.list hh3 _ l hneI items).toS) s.heap.objs.size
          hSf xs hisz hb hval (items.size - 0) 0 _ (by omega) (Nat.zero_le _)
          ⟨⟨_, Heap.get?_push_size _ rfl, rfl, rfl⟩, (hl1.push _)⟩ ?hS0 ?hR
        case hS0 =>
          have hget : ((s.heap.push { cls := .type "set", dict := none, data := .set #[] 0 (.fresh 0 0 (!w.params.followText "set-order")) }).push { cls := .type "list_iterator", data := .fields #[.ref l, .int 0 0] }).get? s.heap.objs.size
              = some { cls := .type "set", dict := none, data := .set #[] 0 (.fresh 0 0 (!w.params.followText "set-order")) } := Heap.get?_push_of_some _ hS
          exact ⟨0, Nat.le_refl 0, new_at hget⟩
        case hR =>
          intro s' c' hm hc' hS'
          obtain ⟨h', g2, d', tk', os'⟩ := s'
          have eg : g2 = s.gens := hm.gens
          have ed : d' = s.drawn := hm.drawn
          have eo : os' = s.os := hm.os
          subst eg; subst ed; subst eo
          show wpAny _ _ _ _ _ _
          refine wpAny_pure ?_
          show wpAny _ _ (ret Value.none) _ _ _
          rw [hisz] at hc'
          refine wpAny_pure ⟨rfl, h', tk', c', rfl, hS', hc', fun b o e => ?_⟩
          have hb0 : b < s.heap.objs.size := Heap.lt_size e
          have hb1 : b ≠ s.heap.objs.size := Nat.ne_of_lt hb0
          have hb2 : b ≠ (s.heap.push { cls := .type "set", dict := none, data := .set #[] 0 (.fresh 0 0 (!w.params.followText "set-order")) }).objs.size := by
            rw [Heap.size_push]; exact Nat.ne_of_lt (Nat.lt_succ_of_lt hb0)
          exact hm.heap b o (by simp only [List.mem_cons, List.mem_singleton, List.not_mem_nil, or_false, not_or]; exact ⟨hb1, hb2⟩) (Heap.get?_push_of_some _ (Heap.get?_push_of_some _ e))

      · cases r₂ with
        | error e => exact hr₂
        | ok fl₂ =>
          cases fl₂ with
          | ret r =>
            obtain ⟨rfl, h', tk, c', rfl, hS', hc', hk'⟩ := hr₂
            repeat (any_goals (first | assumption | wp_step))
            exact h _ _ _ hS' hc' hk'
          | _ => exact hr₂.elim
    | _ => exact hr.elim
end
end TSt
set_option Elab.async false
set_option linter.all false
set_option maxRecDepth 100000
set_option maxHeartbeats 3200000
/-! sorted(set(texts)). -/
namespace TSt
open PySem PySem.Spec PyProof.Rows L2
section
variable {P : Program} {w : World} {A : Around} {E : Value → Shared → Prop} {s : Shared} {a : Addr}
theorem sorted_setS {S : Str → Bool} {n : Nat} {Q : Value → Shared → Prop} (R : SetRS w s.heap a S n) (hh : A.handled = none)
    (hQ : ∀ s' p (out : Array Value) (c : Nat) (ns : List Str), (∀ b o, s.heap.get? b = some o → s'.heap.get? b = some o) → s'.gens = s.gens → s'.os = s.os → s.heap.objs.size ≤ p →
      s'.heap.get? p = some (seqObj "list" out c) → StrsAre out.toList ns → sortedS ns = true → ns.Nodup → (∀ k, k ∈ ns ↔ S k = true) → ns.length = n → Q (.ref p) s') :
    wpAny (model P w) A (call (.builtin "sorted") [.ref a]) Q E s := by
  obtain ⟨o, es, ep, t, ho, hex, hd, ⟨g, nd, hm⟩, hb, hf, hn, hr, hl⟩ := R
  refine Calls.call_function_entry kind_sorted plain_sorted entry_sorted (args_sorted1 _) ?_
  unfold Builtin.«sorted»
  refine wpAny_bind (m := checkCount "sorted" 1 1 _) (wpAny_pure ?_)
  refine wpAny_bind (collect_set (A := A.in1) hh ⟨o, ho, hex.1, hd⟩ hf hb hr hl fun s1 vs k1 hz g1 o1 pm => ?_)
  have hvl : vs.length = n := by rw [pm.length_eq, List.length_map, Array.length_toList]; exact hn
  have hSt : ∃ ss : List Str, StrsAre vs ss ∧ ss.Perm (es.toList.map keyS) := by
    have g2 : ∀ v ∈ vs, ∃ k tk, v = Value.str k tk := fun v hv => by
      obtain ⟨e, he, q⟩ := List.mem_map.mp (pm.mem_iff.mp hv)
      obtain ⟨k, tk, h1, _⟩ := g e he
      exact ⟨k, tk, by rw [← q]; exact h1⟩
    have mk : ∀ l : List Value, (∀ v ∈ l, ∃ k tk, v = Value.str k tk) → StrsAre l (l.map fun v => match v with | .str k _ => k | _ => Str.empty) := fun l => by
      induction l with
      | nil => intro _; exact .nil
      | cons v l ih =>
        intro h
        obtain ⟨k, tk, rfl⟩ := h v List.mem_cons_self
        exact .cons k tk (ih fun u hu => h u (List.mem_cons_of_mem _ hu))
    refine ⟨_, mk vs g2, ?_⟩
    have q := pm.map fun v => match v with | Value.str k _ => k | _ => Str.empty
    rw [List.map_map] at q
    exact q
  obtain ⟨ss, hS, pk⟩ := hSt
  have hvz : vs.length ≤ sizeLine := by rw [hvl, ← hn]; exact fits_of_scanBound hb
  refine wpAny_bind (wpAny_newList ?_ hvz)
  have hoL : (s1.heap.push (seqObj "list" vs.toArray 0)).get? s1.heap.objs.size = some (seqObj "list" vs.toArray 0) := Heap.get?_push_size _ rfl
  refine wpAny_bind (wpAny_holding (wpAny_call_entry slot_list_sort ⟨_, hoL, rfl⟩ entry_list_sort (list_sort_treeKAny strKind_oneLt hoL hS.keysOf (fun v₁ v₂ rest e => keyKind_strs (by rw [← e]; exact hS)) hvz fun st' a1 a2 => ⟨_, rfl, ?_⟩) (args_list_sort _)))
  obtain ⟨ns', b1, b2, b3⟩ := sorted_out_str hS a1 a2
  obtain ⟨c, hc⟩ := sortedHeap_at (vs := vs) (out := (arrOf st').map (·.2)) hoL
  have pn : ns'.Perm (es.toList.map keyS) := b2.trans pk
  refine wpAny_pure ⟨_, rfl, hQ _ s1.heap.objs.size ((arrOf st').map (·.2)) c ns' (fun b u e => ?_) g1 o1 hz hc b1 b3 (pn.nodup_iff.mpr nd) (fun k => by rw [pn.mem_iff, ← hm k]) ?_⟩
  · have q := k1 b u e
    have hlt := Heap.lt_size q
    show (sortedHeap (s1.heap.push (seqObj "list" vs.toArray 0)) s1.heap.objs.size vs _).get? b = some u
    rw [sortedHeap_old (Nat.ne_of_lt hlt) (by rw [size_push']; exact Nat.lt_succ_of_lt hlt)]
    exact Heap.get?_push_of_some _ q
  · rw [pn.length_eq, List.length_map, Array.length_toList]; exact hn
end
/-- sorted(set(xs)), xs a list of texts -/
def tSortSet (K : PySem.W.Frag) (ta : TE) : TE := fun σ H Q => ta σ H fun x H1 => ∃ (l : Addr) (xs : List Str), x = .ref l ∧ SqL K H1 l (xs.map V.str) ∧ xs.length ≤ 4000 ∧
  ∀ (ys : List Str) (p : Addr), sortedS ys = true → ys.Nodup → (∀ k, k ∈ ys ↔ k ∈ xs) → H1 p = none → Q (.ref p) (upd H1 p (.lst (ys.map V.str)))
theorem pe_sortSet {X : Cx} {a : Expr} {ta : TE} {p p2 q pos : Pos} (hc : X.calm = true) (hg : Gl X "sorted") (hm : X.mg "sorted" = none) (hg2 : Gl X "set") (hm2 : X.mg "set" = none) (ha : PE X a ta)
    (na : starEach [a] X.env = (false, eval a X.env) :: starEach [] X.env := by rfl) : PE X (.Call (.Name "sorted" p) [.Call (.Name "set" p2) [a] [] q] [] pos) (tSortSet X.K ta) := by
  refine ⟨fun pins s σ H Q I h => ?_⟩
  refine Call_ (ld_blt I hg hm boot_sorted ?_)
  refine PyProof.Rows.callWith_builtin1 (PyProof.Rows.args_cons ?_ rfl) rfl rfl
  refine Call_ (ld_blt I hg2 hm2 boot_set ?_)
  refine PyProof.Rows.callWith_type1 (PyProof.Rows.args_cons (thn (ha.run pins s σ H _ I h) fun v s1 ⟨x, H1, I1, r1, q1⟩ => PyProof.Rows.args_nil ?_) na) na rfl
  obtain ⟨l, xs, rfl, hq, h1, q1⟩ := q1
  cases r1
  obtain ⟨its, r, pl, hz⟩ := I1.list hq
  have key : ∀ (s2 : Shared) (a2 : Addr) (c : Nat), Inv X pins σ H1 s2 → SetRS X.w s2.heap a2 (fun j => decide (j ∈ xs)) c → c ≤ xs.length → wpAny (model X.prog X.w) X.A (call (.builtin "sorted") [.ref a2]) (EP X pins σ Q) X.xe s2 := fun s2 a2 c I2 R hcn => by
    refine sorted_setS R (I2.ok.hd hc) fun s' p out c2 ns k g o hp hg' hi hs hnd hm hl => ?_
    have hlen : (ns.map V.str).length ≤ sizeLine := by rw [List.length_map, hl, sizeLine_eq]; omega
    have hn : H1 p = none := I2.hok.fresh hp
    have J : Inv X pins σ (upd H1 p (.lst (ns.map V.str))) { s2 with heap := s'.heap, gens := s'.gens, drawn := s'.drawn, toks := s'.toks } :=
      I2.call (ch := []) (Un.laid k hp hn) (I2.hok.laid k hp ⟨hlen, out.toList, c2, vals_of_strs hi, hg'⟩) (by rw [g]; exact I2.bare) (fun _ z => nomatch z)
    have e : s' = { s2 with heap := s'.heap, gens := s'.gens, drawn := s'.drawn, toks := s'.toks } := by
      cases s'
      cases s2
      cases o
      rfl
    rw [e]
    exact ⟨.ref p, _, J, rfl, q1 ns p hs hnd (fun k => (hm k).trans decide_eq_true_iff) hn⟩
  refine call_set_strs xs (I1.ok.hd hc) pl.isList (by simpa using L2.strsAre_of r) (by unfold scanBound; omega) fun h' tk c R hcn hk => ?_
  exact PyProof.Rows.args_nil (key _ _ c (I1.kept hk) R hcn)
end TSt
set_option Elab.async false
set_option linter.all false
set_option maxRecDepth 100000
set_option maxHeartbeats 400000
/-! sorted(set(texts)) told plainly. -/
namespace TD
open PySem PySem.Spec PyProof.Rows L2 TP
section
variable {c : Cz} {ρ : List DV} {ta : TE}
theorem ev_sortSet {xs : List W} (h : EvX c ta ρ (.d (encW xs))) (hz : xs.length ≤ 4000) : EvX c (TSt.tSortSet c.K ta) ρ (.d (encW (ascSet xs))) := fun H1 σ a Q q => h H1 σ a _ fun v H2 s2 o2 => by
  obtain ⟨p, vs, rfl, h1, h2⟩ := dq_list o2
  have e : (xs.map ds) = (xs.map sw).map PyData.str := by rw [List.map_map]; rfl
  rw [e] at h2
  obtain rfl := dqAll_strs h2
  refine ⟨p, xs.map sw, rfl, sqL_of h1, by rw [List.length_map]; exact hz, fun ys r hs hnd hm hr => ?_⟩
  have e1 : ys.map tl = ascSet xs := by
    have hle := sortedS_le hs
    have hnd2 : (ys.map tl).Nodup := by
      have : ((ys.map tl).map sw).Nodup := by rw [map_sw_tl]; exact hnd
      exact (List.pairwise_map.mp this).imp fun {a b} h e => h (by rw [e])
    refine List.Perm.eq_of_pairwise (fun a b _ _ h1 h2 => List.le_antisymm h1 h2) hle (sortW_sorted _) ((List.perm_ext_iff_of_nodup hnd2 (ascSet_nodup xs)).mpr fun x => ?_)
    rw [mem_ascSet, List.mem_map]
    constructor
    · rintro ⟨k, hk, rfl⟩
      obtain ⟨x, hx, rfl⟩ := List.mem_map.mp ((hm k).mp hk)
      rw [tl_sw]; exact hx
    · intro hx
      exact ⟨sw x, (hm _).mpr (List.mem_map.mpr ⟨x, hx, rfl⟩), tl_sw x⟩
  have e2 : ys = (ascSet xs).map sw := by rw [← e1, map_sw_tl]
  have lv := (a.same s2).lv
  rw [e2, List.map_map]
  exact q _ _ (s2.trans (same_new hr _)) (new_lst lv hr (dqAll_ws _))
/-- sorted of the words with their lengths -/
theorem rc_sortO {ws : List W} : RCX c rSortU [.d (.list (ws.map fun w => encL (w.length, w)))] (.d (.list ((inOrder ws).map fun w => encL (w.length, w)))) := fun H1 g lv vs ha Q q => by
  obtain ⟨v, rfl, o⟩ := args1 ha
  obtain ⟨a, us, rfl, h1, h2⟩ := dq_list o
  have hm : ∀ d ∈ ws.map (fun w => encL (w.length, w)), ∃ w : W, d = encL (w.length, w) := fun d hd => by obtain ⟨w, _, rfl⟩ := List.mem_map.mp hd; exact ⟨w, rfl⟩
  refine .inr ⟨hid c.M H1, a, us, ws.map fun w => encL (w.length, w), rfl, hid_le, (hid_some h1).2, h2, fun d hd d' hd' => ?_, .inl fun d hd => ?_, fun d hd => ?_, fun vs' p hv hn => q _ _ (same_new hn _) (new_lst lv hn ?_)⟩
  · obtain ⟨w, rfl⟩ := hm d hd
    obtain ⟨w', rfl⟩ := hm d' hd'
    rfl
  · obtain ⟨w, rfl⟩ := hm d hd
    exact ⟨_, _, rfl⟩
  · obtain ⟨w, rfl⟩ := hm d hd
    show 1 ≤ 60
    decide
  · have e : (ws.map fun w => encL (w.length, w)).mergeSort (PySem.W.dataLe false id) = (inOrder ws).map fun w => encL (w.length, w) := by
      unfold inOrder
      refine (List.map_mergeSort fun a _ b _ => ?_).symm
      rw [PySem.W.dataLe_eq]
      show decide (leL a b) = !PySem.W.dataLt (encL (b.length, b)) (encL (a.length, a))
      rw [dataLt_L, Bool.eq_iff_iff, decide_eq_true_eq, Bool.not_eq_true']
      exact (leP_iff (a := (a.length, a)) (b := (b.length, b))).symm
    rw [← e]
    exact hv
end
section
variable {X : Cx} {K : PySem.W.Frag} {a : Expr} {ta : TE}
theorem k_sortSet {p p2 q pos : Pos} (hK : X.K = K) (hc : X.calm = true) (hg : Gl X "sorted") (hm : X.mg "sorted" = none) (hg2 : Gl X "set") (hm2 : X.mg "set" = none) (ha : PE X a ta)
    (na : starEach [a] X.env = (false, eval a X.env) :: starEach [] X.env := by rfl) : PE X (.Call (.Name "sorted" p) [.Call (.Name "set" p2) [a] [] q] [] pos) (TSt.tSortSet K ta) := hK ▸ TSt.pe_sortSet hc hg hm hg2 hm2 ha na
end
end TD
set_option Elab.async false
set_option linter.all false
set_option maxRecDepth 100000
set_option maxHeartbeats 400000
/-! A comprehension's list, new and hidden. -/
namespace TD
open PySem PySem.Spec PyProof.Rows L2 TP
section
variable {c : Cz} {ρ : List DV}
theorem lc_new {wi : TI} {g : TG} {tt : TT} {te : TE} {vs : List Nat} {α : Type} {its : List α} {it : α → IV} {p : α → Bool} {f : α → D} {js : List Nat} {ρ' : α → List DV} (hi : EvI c wi ρ (its.map it))
    (hg : ∀ x ∈ its, GOk c.K js g (it x) (wipeD ρ vs) (ρ' x)) (hj : ∀ j ∈ js, j ∈ vs) (ht : ∀ q x, x ∈ its → EvB (c.push q) tt (ρ' x) (p x)) (he : ∀ q x, x ∈ its → p x = true → EvX (c.push q) te (ρ' x) (.d (f x))) (hz : its.length ≤ 1000000) {H1 : Hp} {σ : L2.St} (a : At c H1 σ ρ) {Q : VK} (q : ∀ q0 H' acc, H1 q0 = none → q0 ∉ c.M → Same H1 H' → Same (hid c.M H1) (hid (q0 :: c.M) H') → H' q0 = some (.lst acc) → DqAll (hid (q0 :: c.M) H') acc ((its.filter p).map f) → Q (.ref q0) H') :
    tLc wi g tt te vs σ H1 Q := hi H1 σ a _ fun J H2 s2 ok q0 hq0 => by
  have a2 := a.same s2
  have hl : (its.map it).length = its.length := List.length_map _
  refine ⟨fun i m H' => m = its.length - i ∧ i ≤ its.length ∧ Same H2 H' ∧ ∃ acc, H' q0 = some (.lst acc) ∧ DqAll (hid (q0 :: c.M) H') acc (((its.take i).filter p).map f), ⟨_, rfl, Nat.zero_le _, same_new hq0 _, [], upd_same, .nil⟩, ?_⟩
  rintro i m H' ⟨rfl, hi', s, acc, e1, e2⟩
  have s3 : Same (hid c.M H2) (hid (q0 :: c.M) H') := hid_new hq0 s
  have lv : Live (q0 :: c.M) H' := fun b hb => by
    rcases List.mem_cons.mp hb with rfl | hb
    · rw [e1]; exact fun z => by cases z
    · exact a2.lv.same s b hb
  have hacc : acc.length ≤ i := by
    rw [dqAll_len e2, List.length_map]
    exact Nat.le_trans (List.length_filter_le _ _) (by rw [List.length_take]; exact Nat.min_le_left _ _)
  by_cases hlt : i < its.length
  · refine .inr ⟨ok.go _ i H' s3 lv (by rw [hl]; exact hlt), _, fun H'' z => z, fun v H3 y => ?_⟩
    obtain ⟨s4, itv, f1, f2⟩ := ok.yld _ i H' v H3 s3 lv (by rw [hl]; exact hlt) y
    obtain ⟨x, hx, rfl⟩ : ∃ x, its[i]? = some x ∧ it x = itv := by
      rw [List.getElem?_map] at f1
      cases h : its[i]? with
      | none => rw [h] at f1; cases f1
      | some x => rw [h] at f1; exact ⟨x, rfl, Option.some.inj f1⟩
    have hmem : x ∈ its := List.mem_of_getElem? hx
    have hk := filter_take_succ (p := p) hx
    have A3 : Env c.K (hid (q0 :: c.M) H3) (wipe σ vs) (wipeD ρ vs) := ((a2.env.mono s3).mono (Same.hid s4)).wipe vs
    refine hg x hmem (q0 :: c.M) H3 (wipe σ vs) v _ A3 f2 fun σ' e' w' => ⟨?_, ?_⟩
    · rw [w' vs hj]; exact wipe_wipe fun j hj => hj
    · have at3 : At (c.push q0) H3 σ' (ρ' x) := ⟨a2.gr.trans (Same.gr (s.trans s4)), lv.same s4, e'⟩
      refine ht q0 x hmem H3 σ' at3 _ fun H4 s5 => ?_
      refine ite2 (fun hp => ?_) (fun hp => ?_)
      · refine he q0 x hmem hp H4 σ' (at3.same s5) _ fun w H5 s6 o6 => ?_
        have e5 : H5 q0 = some (.lst acc) := s6 _ _ (s5 _ _ (s4 _ _ e1))
        have sh := Same.hid (M := q0 :: c.M) (s4.trans (s5.trans s6))
        have up : Same (hid (q0 :: c.M) H5) (hid (q0 :: c.M) (upd H5 q0 (.lst (acc ++ [w])))) := fun b o eb => by
          obtain ⟨h1, h2⟩ := hid_some eb
          rw [hid_out h1, upd_ne fun z => h1 (by rw [z]; exact List.mem_cons_self)]; exact h2
        refine ⟨acc, e5, Nat.lt_of_le_of_lt (Nat.le_trans hacc (Nat.le_of_lt (Nat.lt_of_lt_of_le hlt hz))) (by decide), its.length - (i + 1), by omega, rfl, hlt, fun b o eb => ?_, acc ++ [w], upd_same, ?_⟩
        · rw [upd_ne (ne_of_none eb hq0)]; exact s6 _ _ (s5 _ _ (s4 _ _ (s _ _ eb)))
        · rw [hk, if_pos hp, List.map_append]
          exact dqAll_app (dqAll_mono up _ _ (dqAll_mono sh _ _ e2)) (.cons (dq_mono up _ _ o6) .nil)
      · have hp' : p x = false := Bool.eq_false_iff.mpr hp
        refine ⟨its.length - (i + 1), by omega, rfl, hlt, s.trans (s4.trans s5), acc, s5 _ _ (s4 _ _ e1), ?_⟩
        rw [hk, if_neg hp, List.append_nil]
        exact dqAll_mono (Same.hid (s4.trans s5)) _ _ e2
  · have e : i = its.length := by omega
    subst e
    rw [List.take_length] at e2
    have hn : q0 ∉ c.M := fun z => by have := a2.lv q0 z; exact this hq0
    exact .inl ⟨ok.stop _ _ H' s3 lv (by rw [hl]; exact Nat.le_refl _), q q0 H' acc (by cases e : H1 q0 with | none => rfl | some o => rw [s2 _ _ e] at hq0; cases hq0) hn (s2.trans s) ((Same.hid s2).trans s3) e1 e2⟩
end
section
variable {K : PySem.W.Frag} {M : List Addr} {H : Hp} {σ : L2.St} {ρ : List DV} {D : Ends} {tz : TS} {i : Nat}
theorem q_newLc {wi : TI} {g : TG} {tt : TT} {te : TE} {vs : List Nat} {α : Type} {its : List α} {it : α → IV} {p : α → Bool} {f : α → PyData} {js : List Nat} {ρ' : α → List DV} (s : Sta K M H σ ρ) (hi : EvI (cz K M H) wi ρ (its.map it))
    (hg : ∀ x ∈ its, GOk K js g (it x) (wipeD ρ vs) (ρ' x)) (hj : SubJ js vs) (ht : ∀ q x, x ∈ its → EvB ((cz K M H).push q) tt (ρ' x) (p x)) (he : ∀ q x, x ∈ its → p x = true → EvX ((cz K M H).push q) te (ρ' x) (.d (f x))) (hz : its.length ≤ 1000000)
    (k : ∀ q σ' H', H q = none → q ∉ M → Same (hid M H) (hid (q :: M) H') → Same H H' → Sta K (q :: M) H' σ' (ρ.set i (.v (.ref q))) → ML (q :: M) H' q ((its.filter p).map f) → tz D σ' H') : tSeq (tAsg (tLc wi g tt te vs) (gName i)) tz D σ H :=
  show tLc wi g tt te vs σ H (fun v H1 => gName i v σ H1 fun σ2 H2 => tz D σ2 H2) from lc_new hi hg hj ht he hz s.at fun q H' acc h0 hn s1 sh e1 e2 => by
    have lv : Live (q :: M) H' := fun b hb => by
      rcases List.mem_cons.mp hb with rfl | hb
      · rw [e1]; exact fun z => by cases z
      · exact s.lv.same s1 b hb
    have st : Sta K (q :: M) H' σ ρ := s.hide lv sh
    exact k q _ _ h0 hn sh s1 (st.set (x := .v (.ref q)) rfl) ⟨List.mem_cons_self, acc, e1, e2⟩
end
end TD
set_option Elab.async false
set_option linter.all false
set_option maxRecDepth 100000
set_option maxHeartbeats 400000
/-! words_from: what may be blocked, what is known. -/
namespace TP
open TD
theorem ascSet_congr {l m : List W} (h : ∀ x, x ∈ l ↔ x ∈ m) : ascSet l = ascSet m := by
  refine List.Perm.eq_of_pairwise (fun a b _ _ h1 h2 => List.le_antisymm h1 h2) (sortW_sorted _) (sortW_sorted _) ((List.perm_ext_iff_of_nodup (ascSet_nodup l) (ascSet_nodup m)).mpr fun x => ?_)
  rw [mem_ascSet, mem_ascSet, h]
theorem after_congr {s : Sc} {B C : List W} {a : W} (h : ∀ x, x ∈ after s B a ↔ x ∈ after s C a) : after s B a = after s C a := by
  have := ascSet_congr (l := afterL s B a) (m := afterL s C a) fun x => by
    have := h x
    unfold after at this
    rwa [mem_ascSet, mem_ascSet] at this
  exact this
theorem after_after {s : Sc} (h3 : ∀ p ∈ s, 1 ≤ p.1.length ∧ p.1.length ≤ 3) {B : List W} (hB : ∀ b ∈ B, b.length ≤ 2) {a c : W} (ha : 1 ≤ a.length) (hc : 1 ≤ c.length) : after s (after s B a) c = after s (after s [] a) c := by
  refine after_congr fun x => ?_
  have key : x ≠ [] → (c ++ x ∈ after s B a ↔ c ++ x ∈ after s [] a) := fun hx => by
    rw [mem_after (B := B), mem_after (B := [])]
    refine and_congr_right fun hcx => ?_
    constructor
    · rintro (h | h)
      · have := hB _ h
        have hx' := List.length_pos_iff.mpr hx
        rw [List.length_append, List.length_append] at this
        omega
      · exact .inr h
    · rintro (h | h)
      · cases h
      · exact .inr h
  rw [mem_after (B := after s B a), mem_after (B := after s [] a)]
  exact and_congr_right fun hx => or_congr_left (key hx)
theorem after_len {s : Sc} (h3 : ∀ p ∈ s, 1 ≤ p.1.length ∧ p.1.length ≤ 3) {B : List W} (hB : ∀ b ∈ B, b.length ≤ 3) {a : W} (ha : 1 ≤ a.length) : ∀ b ∈ after s B a, b ≠ [] ∧ b.length ≤ 2 := fun b hb => by
  obtain ⟨h1, h2⟩ := mem_after.mp hb
  refine ⟨h1, ?_⟩
  rcases h2 with h | h
  · have := hB _ h
    rw [List.length_append] at this; omega
  · obtain ⟨p, hp, e⟩ := List.mem_map.mp h
    have := (h3 p hp).2
    rw [e, List.length_append] at this; omega
def reachL (s : Sc) : List (List W) := [] :: ((s.map fun p => after s [] p.1) ++ s.flatMap fun p => s.map fun q => after s (after s [] p.1) q.1)
theorem reach_ok {s : Sc} (h3 : ∀ p ∈ s, 1 ≤ p.1.length ∧ p.1.length ≤ 3) {B : List W} (h : B ∈ reachL s) : ∀ b ∈ B, b ≠ [] ∧ b.length ≤ 2 := by
  rcases List.mem_cons.mp h with rfl | h
  · simp
  · rcases List.mem_append.mp h with h | h
    · obtain ⟨p, hp, rfl⟩ := List.mem_map.mp h
      exact after_len h3 (by simp) (h3 p hp).1
    · obtain ⟨p, hp, h⟩ := List.mem_flatMap.mp h
      obtain ⟨q, hq, rfl⟩ := List.mem_map.mp h
      exact after_len h3 (fun b hb => by have := (after_len h3 (by simp) (h3 p hp).1 b hb).2; omega) (h3 q hq).1
theorem reach_step {s : Sc} (h3 : ∀ p ∈ s, 1 ≤ p.1.length ∧ p.1.length ≤ 3) {B : List W} (h : B ∈ reachL s) {r : W × W} (hr : r ∈ s) : after s B r.1 ∈ reachL s := by
  rcases List.mem_cons.mp h with rfl | h
  · exact List.mem_cons_of_mem _ (List.mem_append_left _ (List.mem_map.mpr ⟨r, hr, rfl⟩))
  · rcases List.mem_append.mp h with h | h
    · obtain ⟨p, hp, rfl⟩ := List.mem_map.mp h
      exact List.mem_cons_of_mem _ (List.mem_append_right _ (List.mem_flatMap.mpr ⟨p, hp, List.mem_map.mpr ⟨r, hr, rfl⟩⟩))
    · obtain ⟨p, hp, h⟩ := List.mem_flatMap.mp h
      obtain ⟨q, hq, rfl⟩ := List.mem_map.mp h
      rw [after_after h3 (fun b hb => (after_len h3 (by simp) (h3 p hp).1 b hb).2) (h3 q hq).1 (h3 r hr).1]
      exact List.mem_cons_of_mem _ (List.mem_append_right _ (List.mem_flatMap.mpr ⟨q, hq, List.mem_map.mpr ⟨r, hr, rfl⟩⟩))
theorem flatMap_le {α β : Type} {f : α → List β} {b : Nat} : ∀ {l : List α}, (∀ x ∈ l, (f x).length ≤ b) → (l.flatMap f).length ≤ l.length * b
  | [], _ => by simp
  | x :: l, h => by
    rw [List.flatMap_cons, List.length_append, List.length_cons, Nat.succ_mul]
    have := h x List.mem_cons_self
    have := flatMap_le (l := l) fun y hy => h y (List.mem_cons_of_mem _ hy)
    omega
theorem reach_len {s : Sc} (h : s.length ≤ 10) : (reachL s).length ≤ 111 := by
  unfold reachL
  rw [List.length_cons, List.length_append, List.length_map]
  have h1 := flatMap_le (l := s) (f := fun p => s.map fun q => after s (after s [] p.1) q.1) (b := s.length) fun p _ => by rw [List.length_map]; exact Nat.le_refl _
  have h2 : s.length * s.length ≤ 10 * 10 := Nat.mul_le_mul h h
  omega
theorem afterL_len (s : Sc) (B : List W) (a : W) : (after s B a).length ≤ B.length + s.length := by
  unfold after ascSet
  rw [(sortW_perm _).length_eq]
  refine Nat.le_trans (nub_len _) ?_
  unfold afterL
  rw [List.length_append, List.length_map, List.length_map]
  exact Nat.add_le_add (List.length_filter_le _ _) (List.length_filter_le _ _)
theorem reach_size {s : Sc} {B : List W} (h : B ∈ reachL s) : B.length ≤ 2 * s.length := by
  rcases List.mem_cons.mp h with rfl | h
  · simp
  · rcases List.mem_append.mp h with h | h
    · obtain ⟨p, hp, rfl⟩ := List.mem_map.mp h
      have := afterL_len s [] p.1
      simp at this; omega
    · obtain ⟨p, hp, h⟩ := List.mem_flatMap.mp h
      obtain ⟨q, hq, rfl⟩ := List.mem_map.mp h
      have := afterL_len s [] p.1
      have := afterL_len s (after s [] p.1) q.1
      simp at *; omega
/-! fuel -/
theorem flatMap_same {α β : Type} {f g : α → List β} : ∀ {l : List α}, (∀ x ∈ l, f x = g x) → l.flatMap f = l.flatMap g
  | [], _ => rfl
  | x :: l, h => by
    rw [List.flatMap_cons, List.flatMap_cons, h x List.mem_cons_self, flatMap_same fun y hy => h y (List.mem_cons_of_mem _ hy)]
theorem wordsF_fuel {s : Sc} (ht : ∀ p ∈ s, 1 ≤ p.2.length) : ∀ (n : Nat) (B : List W) (x : W), x.length ≤ n → wordsF s n B x = wordsF s x.length B x
  | 0, B, x, h => by
    have : x = [] := List.eq_nil_of_length_eq_zero (by omega)
    subst this; rfl
  | n + 1, B, x, h => by
    cases x with
    | nil => rfl
    | cons c x =>
      show wordsF s (n + 1) B (c :: x) = wordsF s (x.length + 1) B (c :: x)
      unfold wordsF
      rw [if_neg (by simp), if_neg (by simp)]
      congr 1
      have e : ∀ p ∈ s, (if starts (c :: x) p.2 && allowed B p.1 then (wordsF s n (after s B p.1) ((c :: x).drop p.2.length)).map (p.1 ++ ·) else []) = (if starts (c :: x) p.2 && allowed B p.1 then (wordsF s x.length (after s B p.1) ((c :: x).drop p.2.length)).map (p.1 ++ ·) else []) := fun p hp => by
        have h1 := ht p hp
        have h2 : ((c :: x).drop p.2.length).length ≤ x.length := by rw [List.length_drop, List.length_cons]; omega
        rw [List.length_cons] at h
        rw [wordsF_fuel ht n _ _ (by omega), wordsF_fuel ht x.length _ _ h2]
      exact flatMap_same e
theorem wordsF_len {s : Sc} (n : Nat) (B : List W) (x : W) : (wordsF s n B x).length ≤ 50 := by
  rw [wordsF_all]
  unfold topK
  rw [List.length_take]
  omega
theorem wordsF_each {s : Sc} (h3 : ∀ p ∈ s, p.1.length ≤ 3) : ∀ (n : Nat) (B : List W) (x : W), ∀ w ∈ wordsF s n B x, w.length ≤ 3 * n
  | 0, B, x, w, hw => by
    unfold wordsF at hw
    split at hw
    · rw [List.mem_singleton.mp hw]; simp
    · cases hw
  | n + 1, B, x, w, hw => by
    unfold wordsF at hw
    split at hw
    · rw [List.mem_singleton.mp hw]; simp
    · unfold topK at hw
      have hw := (inOrder_perm _).mem_iff.mp (List.mem_of_mem_take hw)
      obtain ⟨p, hp, hw⟩ := List.mem_flatMap.mp hw
      split at hw
      · obtain ⟨v, hv, rfl⟩ := List.mem_map.mp hw
        have := wordsF_each h3 n _ _ v hv
        have := h3 p hp
        rw [List.length_append]; omega
      · cases hw
end TP
namespace TP
open PySem PySem.Spec TD
/-! keys -/
def keyWF (B : List W) (x : W) : List NK := [.tup (B.map fun b => .text (sw b)), .text (sw x)]
theorem keyWF_datas : ∀ B : List W, NestedKey.datas (B.map fun b => .text (sw b)) = B.map ds
  | [] => rfl
  | b :: B => by
    show (NestedKey.text (sw b)).data :: NestedKey.datas (B.map fun b => .text (sw b)) = _
    rw [keyWF_datas B]; rfl
theorem keyWF_data (B : List W) (x : W) : PyData.tuple [.tuple (B.map ds), ds x] = (NestedKey.tup (keyWF B x)).data := by
  show _ = PyData.tuple [.tuple (NestedKey.datas (B.map fun b => .text (sw b))), ds x]
  rw [keyWF_datas]
end TP
set_option Elab.async false
set_option linter.all false
set_option maxRecDepth 100000
set_option maxHeartbeats 400000
/-! words_from: the dict of what is known; the promise. -/
namespace TP
open PySem PySem.Spec TD
theorem nodup_le {α : Type} [DecidableEq α] : ∀ {l m : List α}, l.Nodup → (∀ x ∈ l, x ∈ m) → l.length ≤ m.length
  | [], m, _, _ => Nat.zero_le _
  | a :: l, m, h, k => by
    obtain ⟨h1, h2⟩ := List.nodup_cons.mp h
    have ha := k a List.mem_cons_self
    have := nodup_le (l := l) (m := m.erase a) h2 fun x hx => (List.mem_erase_of_ne fun e => h1 (by rw [← e]; exact hx)).mpr (k x (List.mem_cons_of_mem _ hx))
    rw [List.length_erase_of_mem ha] at this
    have := List.length_pos_of_mem ha
    rw [List.length_cons]
    omega
theorem keyWF_inj {B C : List W} {x y : W} (h : keyWF B x = keyWF C y) : B = C ∧ x = y := by
  unfold keyWF at h
  injection h with h1 h2
  injection h1 with h1
  injection h2 with h2 _
  injection h2 with h2
  refine ⟨?_, by have := congrArg tl h2; rwa [tl_sw, tl_sw] at this⟩
  have h3 : ∀ (B C : List W), (B.map fun b => NestedKey.text (sw b)) = (C.map fun b => NestedKey.text (sw b)) → B = C := fun B => by
    induction B with
    | nil => intro C h; cases C with
      | nil => rfl
      | cons _ _ => cases h
    | cons b B ih => intro C h; cases C with
      | nil => cases h
      | cons c C =>
        rw [List.map_cons, List.map_cons] at h
        injection h with a1 a2
        injection a1 with a1
        have := congrArg tl a1
        rw [tl_sw, tl_sw] at this
        rw [this, ih C a2]
  exact h3 B C h1
theorem keyWF_8 (B : List W) (x : W) : (NestedKey.tup (keyWF B x)).depth ≤ 8 := by
  have h : ∀ B : List W, NestedKey.depthAll (B.map fun b => NestedKey.text (sw b)) = 0 := fun B => by
    induction B with
    | nil => rfl
    | cons b B ih => rw [List.map_cons, NestedKey.depthAll, ih]; rfl
  unfold keyWF
  rw [NestedKey.depth, NestedKey.depthAll, NestedKey.depthAll, NestedKey.depthAll, NestedKey.depth, NestedKey.depth, h]
  decide
def sufs (X : W) : List W := (List.range (X.length + 1)).map fun k => X.drop k
theorem sufs_self (X : W) : X ∈ sufs X := List.mem_map.mpr ⟨0, List.mem_range.mpr (by omega), rfl⟩
theorem sufs_drop {X x : W} (h : x ∈ sufs X) (n : Nat) : x.drop n ∈ sufs X := by
  obtain ⟨k, hk, rfl⟩ := List.mem_map.mp h
  have hk := List.mem_range.mp hk
  rw [List.drop_drop]
  by_cases q : k + n ≤ X.length
  · exact List.mem_map.mpr ⟨k + n, List.mem_range.mpr (by omega), rfl⟩
  · refine List.mem_map.mpr ⟨X.length, List.mem_range.mpr (by omega), ?_⟩
    rw [List.drop_length, List.drop_eq_nil_of_le (by omega)]
theorem sufs_len {X x : W} (h : x ∈ sufs X) : x.length ≤ X.length := by
  obtain ⟨k, _, rfl⟩ := List.mem_map.mp h
  rw [List.length_drop]; omega
def Known (s : Sc) (X : W) (kvs : List (NK × D)) : Prop := (kvs.map (·.1)).Nodup ∧ ∀ kv ∈ kvs, ∃ B x, B ∈ reachL s ∧ x ∈ sufs X ∧ kv = (NestedKey.tup (keyWF B x), encW (wordsF s x.length B x))
theorem known_nil (s : Sc) (X : W) : Known s X [] := ⟨List.nodup_nil, by simp⟩
theorem known_len {s : Sc} {X : W} {kvs : List (NK × D)} (hs : s.length ≤ 10) (hX : X.length ≤ 1000) (h : Known s X kvs) : kvs.length ≤ 111 * 1001 := by
  have := nodup_le (l := kvs.map (·.1)) (m := (reachL s).flatMap fun B => (sufs X).map fun x => NestedKey.tup (keyWF B x)) h.1 fun k hk => by
    obtain ⟨kv, hkv, rfl⟩ := List.mem_map.mp hk
    obtain ⟨B, x, hB, hx, rfl⟩ := h.2 kv hkv
    exact List.mem_flatMap.mpr ⟨B, hB, List.mem_map.mpr ⟨x, hx, rfl⟩⟩
  rw [List.length_map] at this
  have h1 := flatMap_le (l := reachL s) (f := fun B => (sufs X).map fun x => NestedKey.tup (keyWF B x)) (b := X.length + 1) fun B _ => by
    unfold sufs
    rw [List.length_map, List.length_map, List.length_range]; exact Nat.le_refl _
  have h2 : (reachL s).length * (X.length + 1) ≤ 111 * 1001 := Nat.mul_le_mul (reach_len hs) (by omega)
  omega
theorem nget_mem {kvs : List (NK × D)} {k : NK} {v : D} (h : nget kvs k = some v) : (k, v) ∈ kvs := by
  unfold nget at h
  obtain ⟨kv, h1, h2⟩ := Option.map_eq_some_iff.mp h
  have := List.mem_of_find?_eq_some h1
  have e : kv.1 = k := of_decide_eq_true (List.find?_some (p := fun kv : NK × D => decide (kv.1 = k)) h1)
  rw [← e, ← h2]; exact this
theorem known_get {s : Sc} {X : W} {kvs : List (NK × D)} (h : Known s X kvs) {B : List W} {x : W} {v : D} (hg : nget kvs (NestedKey.tup (keyWF B x)) = some v) : v = encW (wordsF s x.length B x) := by
  obtain ⟨C, y, _, _, e⟩ := h.2 _ (nget_mem hg)
  injection e with e1 e2
  injection e1 with e1
  obtain ⟨rfl, rfl⟩ := keyWF_inj e1
  exact e2
theorem known_put {s : Sc} {X : W} {kvs : List (NK × D)} (h : Known s X kvs) {B : List W} {x : W} (hB : B ∈ reachL s) (hx : x ∈ sufs X) (hn : nget kvs (NestedKey.tup (keyWF B x)) = none) : Known s X (kvs ++ [(NestedKey.tup (keyWF B x), encW (wordsF s x.length B x))]) := by
  refine ⟨?_, fun kv hkv => ?_⟩
  · rw [List.map_append, List.nodup_append]
    refine ⟨h.1, by simp, fun a ha b hb => ?_⟩
    simp only [List.map_cons, List.map_nil, List.mem_singleton] at hb
    rintro rfl
    subst hb
    obtain ⟨kv, hkv, e⟩ := List.mem_map.mp ha
    unfold nget at hn
    have hn := Option.map_eq_none_iff.mp hn
    have := List.find?_eq_none.mp hn kv hkv
    rw [e] at this
    simp at this
  · rcases List.mem_append.mp hkv with hkv | hkv
    · exact h.2 kv hkv
    · rw [List.mem_singleton.mp hkv]
      exact ⟨B, x, hB, hx, rfl⟩
end TP
set_option Elab.async false
set_option linter.all false
set_option maxRecDepth 100000
set_option maxHeartbeats 400000
/-! words_from: its promise, its calls. -/
namespace TP
open TD
theorem wordsF_cons (s : Sc) (n : Nat) (B : List W) (c : Nat) (r : W) : wordsF s (n + 1) B (c :: r) = (inOrder (s.flatMap fun p => if starts (c :: r) p.2 && allowed B p.1 then (wordsF s n (after s B p.1) ((c :: r).drop p.2.length)).map (p.1 ++ ·) else [])).take 50 := by
  rw [wordsF, if_neg (by simp)]; rfl
end TP
namespace TD
open PySem PySem.Spec PyProof.Rows L2 TP
/-- what is known of longer texts stays -/
def Kept (x : W) (kvs kvs' : List (NK × PyData)) : Prop := ∀ (C : List W) (y : W), x.length < y.length → nget kvs' (NestedKey.tup (keyWF C y)) = nget kvs (NestedKey.tup (keyWF C y))
def spWF (P : Program) (w : World) (K : PySem.W.Frag) (n : Nat) : Sp := fun vs H Q _ => ∃ (M : List Addr) (s : Sc) (X : W) (B : List W) (x : W) (p : Addr) (kvs : List (NK × PyData)), Live M H ∧ Args K (hid M H) vs [.d (encS s), .d (.tuple (B.map ds)), .d (ds x), .v (.ref p)] ∧
  Scheme s ∧ X.length ≤ 40 ∧ B ∈ reachL s ∧ x ∈ sufs X ∧ x.length < n ∧ MN P w M H p kvs ∧ Known s X kvs ∧
  ∀ v H' kvs', Same (hid M H) (hid M H') → Gr [p] H H' → MN P w M H' p kvs' → Known s X kvs' → Kept x kvs kvs' → VOk K (hid M H') v (.d (encW (wordsF s x.length B x))) → Q v H'
theorem spWF_zero {P : Program} {w : World} {K : PySem.W.Frag} (vs : List V) (H : Hp) (Q : VK) (E : XK) : ¬ spWF P w K 0 vs H Q E := fun ⟨_, _, _, _, _, _, _, _, _, _, _, _, _, h, _⟩ => Nat.not_lt_zero _ h
section
variable {P : Program} {w : World} {K : PySem.W.Frag} {M : List Addr} {H : Hp} {σ : L2.St} {ρ : List DV} {D : Ends} {ta : TA} {te1 te2 te3 : TE} {tz : TS} {i n : Nat} {s : Sc} {X x : W} {B : List W} {p : Addr} {kvs : List (NK × PyData)} {E : XK}
theorem live_gr {H' : Hp} (lv : Live M H) (g : Gr [p] H H') (m : MN P w M H' p kvs) : Live M H' := fun a ha => by
  by_cases e : a = p
  · obtain ⟨_, _, h, _⟩ := m
    rw [e, h]; intro z; cases z
  · cases h : H a with
    | none => exact absurd h (lv a ha)
    | some o => rw [g a o (by simpa using e) h]; intro z; cases z
theorem call_wf (S : Sta K M H σ ρ) (ha : EvA (cz K M H) ta ρ [.d (encS s), .d (.tuple (B.map ds)), .d (ds x), .v (.ref p)]) (hs : Scheme s) (hX : X.length ≤ 40) (hB : B ∈ reachL s) (hx : x ∈ sufs X) (hn : x.length < n) (m : MN P w M H p kvs) (kn : Known s X kvs)
    (k : ∀ σ' H' kvs', Same (hid M H) (hid M H') → Gr [p] H H' → Sta K M H' σ' (ρ.set i (.d (encW (wordsF s x.length B x)))) → MN P w M H' p kvs' → Known s X kvs' → Kept x kvs kvs' → tz D σ' H') : tSeq (tAsg (tCall (spWF P w K n) [] E ta) (gName i)) tz D σ H :=
  ha H σ S.at _ fun vs H2 s2 o2 => by
    rw [List.append_nil]
    have S2 := S.same s2
    refine ⟨M, s, X, B, x, p, kvs, S2.lv, o2, hs, hX, hB, hx, hn, m.same s2, kn, fun v H' kvs' sh g m' kn' kp o => ?_⟩
    exact k _ H' kvs' ((Same.hid s2).trans sh) ((Same.gr s2).trans g) ((S2.hide (live_gr S2.lv g m') sh).set o) m' kn' kp
theorem ret_wf (S : Sta K M H σ ρ) (h1 : EvX (cz K M H) te1 ρ (.d (encS s))) (h2 : ∀ H2, EvX (cz K M H2) te2 ρ (.d (.tuple []))) (h3 : ∀ H2, EvX (cz K M H2) te3 ρ (.d (ds x))) (hs : Scheme s) (hx : x.length ≤ 40) (hn : x.length < n)
    (k : ∀ v H', Same H H' → VOk K (hid M H') v (.d (encW (wordsF s x.length [] x))) → D.rt v H') : tRet (tCall (spWF P w K n) [] E (tCons te1 (tCons te2 (tCons te3 (tCons (tNNew P w) tNil))))) D σ H :=
  h1 H σ S.at _ fun v1 H1 s1 o1 => h2 H1 H1 σ (S.same s1).at _ fun v2 H2 s2 o2 => h3 H2 H2 σ ((S.same s1).same s2).at _ fun v3 H3 s3 o3 => by
    intro p hp
    have S3 := ((S.same s1).same s2).same s3
    have np : p ∉ M := S3.lv.new hp
    have sn : Same H3 (upd H3 p (NDO P w p [])) := same_new hp _
    have sh : Same (hid M H3) (hid (p :: M) (upd H3 p (NDO P w p []))) := hid_new hp sn
    have m0 : MN P w (p :: M) (upd H3 p (NDO P w p [])) p [] := mn_new hp
    have lv : Live (p :: M) (upd H3 p (NDO P w p [])) := fun a ha => by
      rcases List.mem_cons.mp ha with rfl | ha
      · rw [upd_same]; intro z; cases z
      · exact S3.lv.same sn a ha
    show spWF P w K n ([v1, v2, v3, .ref p] ++ []) (upd H3 p (NDO P w p [])) D.rt E
    rw [List.append_nil]
    refine ⟨p :: M, s, x, [], x, p, [], lv, .cons ((o1.mono (Same.hid (s2.trans s3))).mono sh) (.cons ((o2.mono (Same.hid s3)).mono sh) (.cons (o3.mono sh) (.cons rfl .nil))), hs, hx, List.mem_cons_self, sufs_self x, hn, m0, known_nil s x, fun v H' kvs' sh' g m' kn' kp o => ?_⟩
    refine k v H' (fun b ob eb => ?_) (o.mono hid_cons)
    have e3 := s3 _ _ (s2 _ _ (s1 _ _ eb))
    exact g b ob (by simpa using ne_of_none e3 hp) (sn _ _ e3)
end
section
variable {K : PySem.W.Frag} {M : List Addr} {H : Hp} {σ : L2.St} {ρ : List DV} {D : Ends} {te : TE}
theorem s_ext {K' : PySem.W.Frag} {to : TE} {p : Addr} {xs ys : List PyData} (s : Sta K M H σ ρ) (m : ML M H p xs) (ho : EvX (cz K M H) to ρ (.v (.ref p))) (h : EvX (cz K M H) te ρ (.d (.list ys))) (hz : xs.length + ys.length ≤ 1000000)
    (k : ∀ H', Same (hid M H) (hid M H') → Gr [p] H H' → Sta K M H' σ ρ → ML M H' p (xs ++ ys) → D.nx σ H') : tDrop (tBM K' "list" rExtend to (tCons te tNil)) D σ H :=
  q_ext (tz := tNext) s m ho h hz k
end
end TD
set_option Elab.async false
set_option linter.all false
set_option maxRecDepth 100000
set_option maxHeartbeats 400000
/-! a call without arguments -/
namespace TD
open PySem PySem.Spec PyProof.Rows L2 TP
variable {X : Cx} {CX : CXT} {k : Nat} {x : Str} {ps : List Str} {sp : Sp} {E : XK} {p pos : Pos}
theorem pe_callF0 (F : FnIs X.prog X.w X.K X.mg X.base CX k x ps sp) (hr : Room k X.A) (hx : Passes CX X E) (hg : Gl X x := by rfl) (hdb : (x == ("__debug__" : Str)) = false := by decide) :
    PE X (.Call (.Name x p) [] [] pos) (tCall sp [] E tNil) := by
  obtain ⟨f, fd, G, hm, hk, hb⟩ := F
  exact pe_call0 G hr hg hm hk hb .nil hx hdb
end TD
set_option Elab.async false
set_option linter.all false
set_option maxRecDepth 100000
set_option maxHeartbeats 400000
/-! Functions made within a def, handed to another def: their cells are told to the callee as things of the heap. -/
namespace TD
open PySem PySem.Spec PyProof.Rows L2 LamX NdefX TP
/-- the object of a cell, told whole -/
def CellO (c : Addr) (ob : Obj) : HO := .ext fun h => h.get? c = some ob
theorem cellO_ok {P : Program} {w : World} {H : Hp} {h : Heap} {c : Addr} {ob : Obj} (e : h.get? c = some ob) : ObjOk P w H h c (CellO c ob) := ⟨e, ⟨_, e⟩, fun h1 h2 e1 k => k _ e1⟩
/-- cells, told -/
def CellHp (Hc : Hp) : Prop := ∀ c o, Hc c = some o → ∃ ob, o = CellO c ob ∧ ∃ v, ob.data = .cell v
def ovl (Hc H : Hp) : Hp := fun b => match Hc b with
  | some o => some o
  | none => H b
def mns (Hc H : Hp) : Hp := fun b => match Hc b with
  | some _ => none
  | none => H b
section
variable {Hc H H' : Hp} {b : Addr} {o : HO}
theorem ovl_in (h : Hc b = some o) : ovl Hc H b = some o := by unfold ovl; rw [h]
theorem ovl_out (h : Hc b = none) : ovl Hc H b = H b := by unfold ovl; rw [h]
theorem mns_in (h : Hc b = some o) : mns Hc H b = none := by unfold mns; rw [h]
theorem mns_out (h : Hc b = none) : mns Hc H b = H b := by unfold mns; rw [h]
theorem mns_some (h : mns Hc H b = some o) : Hc b = none ∧ H b = some o := by
  cases e : Hc b with
  | none => rw [mns_out e] at h; exact ⟨rfl, h⟩
  | some u => rw [mns_in e] at h; cases h
theorem mns_none (h : H b = none) : mns Hc H b = none := by
  cases e : Hc b with
  | none => rw [mns_out e]; exact h
  | some u => exact mns_in e
theorem ovl_le (n : ∀ c o, Hc c = some o → H c = none) : Same H (ovl Hc H) := fun c u e => by
  cases q : Hc c with
  | none => rw [ovl_out q]; exact e
  | some v => rw [n c v q] at e; cases e
theorem ovl_ge : Same Hc (ovl Hc H) := fun c u e => ovl_in e
theorem mns_ovl (n : ∀ c o, Hc c = some o → H c = none) : mns Hc (ovl Hc H) = H := by
  funext c
  cases q : Hc c with
  | none => rw [mns_out q, ovl_out q]
  | some v => rw [mns_in q, n c v q]
theorem ovl_mns (s : Same Hc H) : ovl Hc (mns Hc H) = H := by
  funext c
  cases q : Hc c with
  | none => rw [ovl_out q, mns_out q]
  | some v => rw [ovl_in q, s c v q]
variable {P : Program} {w : World} {h h' : Heap}
theorem ovl_hok (k : HOk P w H h) (n : ∀ c o, Hc c = some o → H c = none) (a : ∀ c o, Hc c = some o → ∃ ob, o = CellO c ob ∧ h.get? c = some ob) : HOk P w (ovl Hc H) h := fun c o e => by
  cases q : Hc c with
  | none =>
    rw [ovl_out q] at e
    exact (k c o e).stay (fun _ _ _ z => z) (fun d z => ovl_le n d _ z) fun d xs z => ovl_le n d _ z
  | some v =>
    rw [ovl_in q] at e
    cases e
    obtain ⟨ob, rfl, g⟩ := a c _ q
    exact cellO_ok g
theorem mns_hok (k : HOk P w H h) (hc : CellHp Hc) (s : Same Hc H) : HOk P w (mns Hc H) h := fun c o e => by
  obtain ⟨q, e⟩ := mns_some e
  have keep : ∀ d u, H d = some u → (∀ ob, u ≠ CellO d ob) → mns Hc H d = some u := fun d u z ne => by
    cases r : Hc d with
    | none => rw [mns_out r]; exact z
    | some v =>
      obtain ⟨ob, rfl, _⟩ := hc d v r
      rw [s d _ r] at z
      exact absurd (Option.some.inj z).symm (ne ob)
  exact (k c o e).stay (fun _ _ _ z => z) (fun d z => keep d _ z fun ob e => by cases e) fun d xs z => keep d _ z fun ob e => by cases e
/-- what cells stand as -/
theorem cell_get (k : HOk P w H h) (hc : CellHp Hc) (s : Same Hc H) {c : Addr} {o : HO} (e : Hc c = some o) : ∃ ob, o = CellO c ob ∧ h.get? c = some ob ∧ ∃ v, ob.data = .cell v := by
  obtain ⟨ob, rfl, v, d⟩ := hc c o e
  obtain ⟨g, _⟩ := k c _ (s c _ e)
  exact ⟨ob, rfl, g, v, d⟩
variable {fs : List Addr}
/-- behind a callee that knew of the cells -/
theorem un_mns (u : Un fs [] (ovl Hc H) H' h h') (hc : CellHp Hc) (k : HOk P w (ovl Hc H) h) (k' : HOk P w H' h') (s : Same Hc H') (n : ∀ c o, Hc c = some o → H c = none) : Un fs [] H (mns Hc H') h h' := by
  have nn : ∀ b, H b = none → Hc b = none → ovl Hc H b = none := fun b z q => by rw [ovl_out q]; exact z
  have same : ∀ b o z, Hc b = some z → h.get? b = some o → h'.get? b = some o := fun b o z q e => by
    obtain ⟨ob, e1, g1, _⟩ := cell_get k hc ovl_ge q
    obtain ⟨ob', e2, g2, _⟩ := cell_get k' hc s q
    subst e1
    have e3 := (k b _ (ovl_in q)).1
    have e4 := (k' b _ (s b _ q)).1
    rw [e3] at e
    cases e
    exact e4
  refine ⟨fun b o e z nb _ => ?_, fun b o e z nb _ => ?_, fun b o e z _ => ?_, fun b o e _ => u.there b o e (by simp), fun b xs z => ?_, fun b o xs z => ?_, fun b ps z => ?_⟩
  · cases q : Hc b with
    | none => exact u.keep b o e (nn b z q) nb (by simp)
    | some v => exact same b o v q e
  · cases q : Hc b with
    | none => exact u.slot b o e (nn b z q) nb (by simp)
    | some v => exact ⟨o.slots, same b o v q e⟩
  · cases q : Hc b with
    | none => rw [mns_out q]; exact u.free b o e (nn b z q) (by simp)
    | some v => exact mns_in q
  · have q : Hc b = none := by
      cases q : Hc b with
      | none => rfl
      | some v => rw [n b v q] at z; cases z
    rw [mns_out q]; exact u.tups b xs (by rw [ovl_out q]; exact z)
  · have q : Hc b = none := by
      cases q : Hc b with
      | none => rfl
      | some v => rw [n b v q] at z; cases z
    rw [mns_out q]; exact u.frzs b o xs (by rw [ovl_out q]; exact z)
  · have q : Hc b = none := by
      cases q : Hc b with
      | none => rfl
      | some v => rw [n b v q] at z; cases z
    rw [mns_out q]; exact u.tbls b ps (by rw [ovl_out q]; exact z)
/-- behind a callee that did not know of the cells -/
theorem un_ovl (u : Un fs [] (mns Hc H) H' h h') (hc : CellHp Hc) (k : HOk P w H h) (k' : HOk P w H' h') (s : Same Hc H) (nf : ∀ c o, Hc c = some o → c ∉ fs) :
    Un fs [] H (ovl Hc H') h h' ∧ HOk P w (ovl Hc H') h' ∧ ∀ c o, Hc c = some o → H' c = none := by
  have get : ∀ c o, Hc c = some o → ∃ ob, o = CellO c ob ∧ h.get? c = some ob ∧ h'.get? c = some ob ∧ H' c = none := fun c o q => by
    obtain ⟨ob, e1, g1, _⟩ := cell_get k hc s q
    exact ⟨ob, e1, g1, u.keep c ob g1 (mns_in q) (nf c o q) (by simp), u.free c ob g1 (mns_in q) (by simp)⟩
  have out : ∀ b, H b = none → Hc b = none := fun b z => by
    cases q : Hc b with
    | none => rfl
    | some v => rw [s b v q] at z; cases z
  have out2 : ∀ b o, H b = some o → (∀ ob, o ≠ CellO b ob) → Hc b = none := fun b o z ne => by
    cases q : Hc b with
    | none => rfl
    | some v =>
      obtain ⟨ob, rfl, _⟩ := hc b v q
      rw [s b _ q] at z
      exact absurd (Option.some.inj z).symm (ne ob)
  refine ⟨⟨fun b o e z nb _ => u.keep b o e (mns_none z) nb (by simp), fun b o e z nb _ => u.slot b o e (mns_none z) nb (by simp), fun b o e z _ => by rw [ovl_out (out b z)]; exact u.free b o e (mns_none z) (by simp), fun b o e _ => u.there b o e (by simp), fun b xs z => ?_, fun b o xs z => ?_, fun b ps z => ?_⟩,
    ovl_hok k' (fun c o q => (get c o q).elim fun _ z => z.2.2.2) fun c o q => (get c o q).elim fun ob z => ⟨ob, z.1, z.2.2.1⟩, fun c o q => (get c o q).elim fun _ z => z.2.2.2⟩
  · have q := out2 b _ z fun ob e => by cases e
    rw [ovl_out q]; exact u.tups b xs (by rw [mns_out q]; exact z)
  · have q := out2 b _ z fun ob e => by cases e
    rw [ovl_out q]; exact u.frzs b o xs (by rw [mns_out q]; exact z)
  · have q := out2 b _ z fun ob e => by cases e
    rw [ovl_out q]; exact u.tbls b ps (by rw [mns_out q]; exact z)
end
end TD
set_option Elab.async false
set_option linter.all false
set_option maxRecDepth 100000
set_option maxHeartbeats 400000
/-! Calls of such functions; calls that hand them on. -/
namespace TD
open PySem PySem.Spec PyProof.Rows L2 LamX NdefX TP
/-- a function at f that may be called while H0 stands: for xs it hands back x, it changes nothing -/
structure Clo (P : Program) (w : World) (K : PySem.W.Frag) (mg : Str → Option Value) (base : Heap) (k : Nat) (M0 : List Addr) (H0 : Hp) (f : Addr) (ok : List DV → DV → Prop) : Prop where
  fn : ∃ F, H0 f = some (FnO f F)
  run : ∀ (A : Around) (outer : List PySem.Env) (s : Shared) (H : Hp) (us : List Value) (vs : List V) (Q : VK) (M : List Addr) (xs : List DV) (x : DV), Room k A → Env0 P w K mg base A outer s H → Same H0 H → (∀ b ∈ M0, b ∈ M) → Same (hid M0 H0) (hid M H) →
    Live M H → Args K (hid M H) vs xs → Vals vs us → ok xs x → (∀ v H', Same H H' → VOk K (hid M H') v x → Q v H') → codeAny (model P w) A (.call (.ref f) ⟨us, []⟩) (CR (L2N.CX P w) outer P w H s Q E0) s
theorem cx_no {P : Program} {w : World} {outer : List PySem.Env} {H : Hp} {s : Shared} {u : Value} {s' : Shared} (h : L2N.CX P w outer H s E0 u s') : False := by
  obtain ⟨_, _, _, _, _, _, _, _, _, _, _, _, z⟩ := h
  exact z
/-- f(..), f the function that slot i holds -/
def tCallQ (P : Program) (w : World) (K : PySem.W.Frag) (mg : Str → Option Value) (base : Heap) (k i : Nat) (t : TA) : TE := fun σ H Q => ∃ f M0 H0 ok, σ[i]? = some (some (.ref f)) ∧ Clo P w K mg base k M0 H0 f ok ∧ Same H0 H ∧
  t σ H fun vs H1 => Same H0 H1 ∧ ∃ M xs x, (∀ b ∈ M0, b ∈ M) ∧ Same (hid M0 H0) (hid M H1) ∧ Live M H1 ∧ Args K (hid M H1) vs xs ∧ ok xs x ∧ ∀ v H', Same H1 H' → VOk K (hid M H') v x → Q v H'
section
variable {X : Cx} {P : Program} {w : World} {K : PySem.W.Frag} {mg : Str → Option Value} {base : Heap} {k i : Nat} {x : Str} {t : TA} {e : Expr} {es : List Expr} {p pos : Pos}
theorem pe_callQ (hP : X.prog = P) (hw : X.w = w) (hK : X.K = K) (hmg : X.mg = mg) (hba : X.base = base) (hr : Room k X.A) (hN : X.N[i]? = some x) (hv : Vis X.env.scope x) (ha : PA X (e :: es) t)
    (hd : (x == ("__debug__" : Str)) = false := by decide) (hcd : (x == ("__classdict__" : Str)) = false := by decide)
    (he : starEach (e :: es) X.env = (false, eval e X.env) :: starEach es X.env := by rfl) (hpl : (backTo pos (starEach es X.env)).any (·.1) = false := by rfl) :
    PE X (.Call (.Name x p) (e :: es) [] pos) (tCallQ P w K mg base k i t) := by
  subst hP hw hK hmg hba
  refine ⟨fun pins s σ H Q I h => ?_⟩
  obtain ⟨f, M0, H0, ok, hs, hcl, s0, ht⟩ := h
  refine wpAny_Call_Name_kw (thn ((pe_var (pos := p) hN hv hd hcd).run pins s σ H (fun v H1 => v = .ref f ∧ H1 = H) I ⟨.ref f, hs, rfl, rfl⟩) fun u s1 ⟨v, H1, I1, r1, q1⟩ => ?_)
  obtain ⟨ev, eH⟩ := q1
  subst ev
  rw [eH] at I1
  obtain rfl : u = Value.ref f := r1
  obtain ⟨F, hF⟩ := hcl.fn
  refine PySem.W.callWith_F (first := []) (fnAt_of I1 (s0 _ _ hF)) (thn (ha.run pos pins s1 σ H _ I1 ht) fun us s2 ⟨vs, H2, I2, r, s2', M, xs, x, hM, sM, lv, args, hok, q⟩ => ⟨fnAt_of I2 (s2' _ _ hF), ?_⟩) he hpl
  show wpAny _ _ (call (.ref f) us) _ _ _
  refine wpAny_call (codeAny_mono (hcl.run X.A X.stack s2 H2 us vs Q M xs x hr I2.env0 s2' hM sM lv args r hok q) fun r s' hq => ?_)
  cases r with
  | error e => exact (cx_no hq).elim
  | ok fl =>
    cases fl with
    | ret u => exact I2.after hq
    | next => exact False.elim hq
    | brk => exact False.elim hq
    | cont => exact False.elim hq
end
section
variable {P : Program} {w : World} {mg : Str → Option Value} {base : Heap} {k i : Nat} {c : Cz} {ρ : List DV} {f : Addr} {M0 : List Addr} {H0 : Hp} {ok : List DV → DV → Prop} {xs : List DV} {x : DV} {t : TA}
theorem ev_callQ (hv : ρ[i]? = some (.v (.ref f))) (C : Clo P w c.K mg base k M0 H0 f ok) (hT : c.T = []) (s0 : Same H0 c.H) (hm : ∀ b ∈ M0, b ∈ c.M) (s1 : Same (hid M0 H0) (c.hid c.H)) (ha : EvA c t ρ xs) (h : ok xs x) : EvX c (tCallQ P w c.K mg base k i t) ρ x := fun H1 σ a Q q => by
  have g : Same c.H H1 := by
    have := a.gr
    rw [hT] at this
    exact Gr.same this
  obtain ⟨v, e1, e2⟩ := a.env.get hv (by intro z; cases z)
  have e3 : v = .ref f := e2
  subst e3
  refine ⟨f, M0, H0, ok, e1, C, s0.trans g, ha H1 σ a _ fun vs H2 s2 o2 => ⟨(s0.trans g).trans s2, c.M, xs, x, hm, s1.trans (Same.hid (g.trans s2)), a.lv.same s2, o2, h, fun v H' s3 o3 => q v H' (s2.trans s3) o3⟩⟩
end
/-! ### handing on -/
/-- the cells of the running frame -/
structure CellsP (X : Cx) (σ : L2.St) (H : Hp) (Hc : Hp) : Prop where
  hp : CellHp Hc
  new : ∀ c o, Hc c = some o → H c = none
  of : ∀ c o, Hc c = some o → ∃ y, X.env.cells.lookup y = some c
  all : ∀ y c, X.env.cells.lookup y = some c → ∃ o, Hc c = some o
  inj : ∀ x y c, X.env.cells.lookup x = some c → X.env.cells.lookup y = some c → x = y
  has : ∀ x, (X.env.scope.names.lookup x = some .cell ∨ X.env.scope.names.lookup x = some .free) → ∃ c, X.env.cells.lookup x = some c
  val : ∀ (i : Nat) (y : Str) (v : V), X.N[i]? = some y → σ[i]? = some (some v) → (X.env.scope.names.lookup y = some .cell ∨ X.env.scope.names.lookup y = some .free) →
    ∃ c ob u, X.env.cells.lookup y = some c ∧ Hc c = some (CellO c ob) ∧ RelV v u ∧ ob.data = .cell (some u)
/-- f(..): the callee is told of the cells -/
def tCallW (X : Cx) (sp : Sp) (t : TA) : TE := fun σ H Q => t σ H fun vs H1 => ∀ Hc, CellsP X σ H1 Hc → sp vs (ovl Hc H1) (fun v H' => Same Hc H' ∧ Q v (mns Hc H')) E0
section
variable {X : Cx} {pins : List (Addr × Obj)} {σ : L2.St} {H : Hp} {s : Shared}
open Classical in
theorem cellsP_of (I : Inv X pins σ H s) : ∃ Hc, CellsP X σ H Hc ∧ ∀ c o, Hc c = some o → ∃ ob, o = CellO c ob ∧ s.heap.get? c = some ob := by
  refine ⟨fun b => if ∃ y, X.env.cells.lookup y = some b then (s.heap.get? b).map (CellO b) else none, ⟨fun c o e => ?_, fun c o e => ?_, fun c o e => ?_, fun y c e => ?_, I.ok.inj, fun x h => I.ok.has x h, fun i y v hN hs hk => ?_⟩, fun c o e => ?_⟩
  · by_cases q : ∃ y, X.env.cells.lookup y = some c
    · rw [if_pos q] at e
      obtain ⟨y, hy⟩ := q
      obtain ⟨v, ob, g, d⟩ := I.cell y c hy
      rw [g] at e
      cases e
      exact ⟨ob, rfl, v, d⟩
    · rw [if_neg q] at e; cases e
  · by_cases q : ∃ y, X.env.cells.lookup y = some c
    · obtain ⟨y, hy⟩ := q
      exact I.freeC y c hy
    · rw [if_neg q] at e; cases e
  · by_cases q : ∃ y, X.env.cells.lookup y = some c
    · exact q
    · rw [if_neg q] at e; cases e
  · obtain ⟨v, ob, g, d⟩ := I.cell y c e
    exact ⟨CellO c ob, by rw [if_pos ⟨y, e⟩, g]; rfl⟩
  · obtain ⟨m, hn, hl⟩ := I.loc
    obtain ⟨u, r, l⟩ := hl i y v hN hs (hk.elim (fun z => .inr (.inl z)) fun z => .inr (.inr z))
    rcases l with ⟨z, _⟩ | ⟨_, a, ha, ob, g, d⟩
    · have z' : X.env.scope.names.lookup y = some .local := z
      rcases hk with hk | hk <;> rw [hk] at z' <;> cases z'
    · exact ⟨a, ob, u, ha, by rw [if_pos ⟨y, ha⟩, g]; rfl, r, d⟩
  · have e : (if ∃ y, X.env.cells.lookup y = some c then (s.heap.get? c).map (CellO c) else none) = some o := e
    by_cases q : ∃ y, X.env.cells.lookup y = some c
    · rw [if_pos q] at e
      obtain ⟨y, hy⟩ := q
      obtain ⟨v, ob, g, d⟩ := I.cell y c hy
      rw [g] at e
      cases e
      exact ⟨ob, rfl, g⟩
    · rw [if_neg q] at e; cases e
/-- what a callee wants where it is told of the cells -/
theorem env0_cells (I : Inv X pins σ H s) (hfn : ∀ y c, X.env.cells.lookup y = some c → X.fn y = true) {Hc : Hp} (cp : CellsP X σ H Hc) (cg : ∀ c o, Hc c = some o → ∃ ob, o = CellO c ob ∧ s.heap.get? c = some ob) : Env0 X.prog X.w X.K X.mg X.base X.A X.stack s (ovl Hc H) := by
  have lo : ∀ c o, Hc c = some o → X.s_0.heap.objs.size ≤ c := fun c o e => by
    obtain ⟨y, hy⟩ := cp.of c o e
    exact I.ok.cab y c (hfn y c hy) hy
  refine ⟨I.ok.frames, I.ok.mod, fun b o e => ?_, Nat.le_trans I.ok.bsz I.sz, I.stack, fun b hb => ?_, ovl_hok I.hok cp.new cg, I.bare⟩
  · refine ⟨(I.bs b o e).1, ?_⟩
    cases q : Hc b with
    | none => rw [ovl_out q]; exact (I.bs b o e).2
    | some u =>
      exact absurd (Nat.lt_of_lt_of_le (Heap.lt_size e) (Nat.le_trans I.ok.bsz (lo b u q))) (Nat.lt_irrefl _)
  · cases q : Hc b with
    | none => rw [ovl_out q]; exact I.stkFree b hb
    | some u =>
      rcases List.mem_cons.mp (I.stkSub b hb) with e | hb
      · obtain ⟨y, hy⟩ := cp.of b u q
        obtain ⟨v, ob, g, d⟩ := I.cell y b hy
        obtain ⟨m, ⟨o, es, ep, ho, hd, _⟩, _⟩ := I.loc
        rw [e, ho] at g
        cases g
        rw [d] at hd
        cases hd
      · obtain ⟨_, o, ho, _⟩ := I.ok.funs.mem hb
        exact absurd (Nat.lt_of_lt_of_le (Heap.lt_size ho) (lo b u q)) (Nat.lt_irrefl _)
variable {k : Nat} {x : Str} {ps : List Str} {sp : Sp} {t : TA} {e : Expr} {es : List Expr} {p pos : Pos}
theorem pe_callW (F : FnIs X.prog X.w X.K X.mg X.base (L2N.CX X.prog X.w) k x ps sp) (hr : Room k X.A) (hfn : ∀ y c, X.env.cells.lookup y = some c → X.fn y = true) (ha : PA X (e :: es) t) (hg : Gl X x := by rfl) (hdb : (x == ("__debug__" : Str)) = false := by decide)
    (he : starEach (e :: es) X.env = (false, eval e X.env) :: starEach es X.env := by rfl) (hpl : (backTo pos (starEach es X.env)).any (·.1) = false := by rfl) : PE X (.Call (.Name x p) (e :: es) [] pos) (tCallW X sp t) := by
  obtain ⟨f, fd, G, hm, hk, hb⟩ := F
  refine ⟨fun pins s σ H Q I h => ?_⟩
  refine wpAny_Call_Name_kw (ld_glob I hg hm ?_ hdb)
  refine PySem.W.callWith_K (h₀ := X.base) I.ok.mod.kin hk (thn (ha.run pos pins s σ H _ I h) fun us s1 ⟨vs, H1, I1, r, q⟩ => ⟨I1.kIn, ?_⟩) he hpl
  show wpAny _ _ (call (.ref f) us) _ _ _
  obtain ⟨Hc, cp, cg⟩ := cellsP_of I1
  have h := q Hc cp
  have hl : (us ++ []).length = ps.length := by rw [List.append_nil, ← r.length]; exact G.len _ _ _ _ h
  have bt := hb s1 us I1.kIn hl
  rw [List.append_nil] at bt
  refine wpAny_call (codeAny_mono (G.run X.A X.stack s1 (ovl Hc H1) ⟨us, []⟩ us vs _ E0 hr (env0_cells I1 hfn cp cg) bt r h) fun r s' hq => ?_)
  cases r with
  | error e => exact (cx_no hq).elim
  | ok fl =>
    cases fl with
    | ret u =>
      obtain ⟨v, H', os, bare, un, hok, rv, sc, q'⟩ := hq
      exact I1.after ⟨v, mns Hc H', os, bare, un_mns un cp.hp (ovl_hok I1.hok cp.new cg) hok sc cp.new, mns_hok hok cp.hp sc, rv, q'⟩
    | next => exact False.elim hq
    | brk => exact False.elim hq
    | cont => exact False.elim hq
end
/-! ### a function made here, told by its promise -/
/-- the promise of a function made within a def: cs, what its captured cells hold -/
def spN (K : PySem.W.Frag) (ok : List DV → List DV → DV → Prop) : List (Option V) → Sp := fun ws vs H Q _ => ∃ M cs xs x, Live M H ∧ Env K (hid M H) ws cs ∧ Args K (hid M H) vs xs ∧ ok cs xs x ∧ ∀ v H', Same H H' → VOk K (hid M H') v x → Q v H'
section
variable {P : Program} {w : World} {K : PySem.W.Frag} {mg : Str → Option Value} {base : Heap} {k : Nat} {F : NF} {f : Addr} {ps fr N : List Str} {ok : List DV → List DV → DV → Prop}
theorem env_startF {H : Hp} {vs : List V} {xs : List DV} {ws : List (Option V)} {cs : List DV} (h : Args K H vs xs) (g : Env K H ws cs) : Env K H (startF N vs ws) (xs ++ (cs ++ List.replicate (N.length - xs.length - cs.length) .z)) := by
  unfold startF
  rw [Args.len h, Env.len g]
  have app : ∀ {σ : L2.St} {ρ : List DV} {σ' : L2.St} {ρ' : List DV}, Env K H σ ρ → Env K H σ' ρ' → Env K H (σ ++ σ') (ρ ++ ρ') := by
    intro σ
    induction σ with
    | nil =>
      intro ρ σ' ρ' h h'
      cases ρ with
      | nil => exact h'
      | cons _ _ => exact h.elim
    | cons o σ ih =>
      intro ρ σ' ρ' h h'
      cases ρ with
      | nil => exact h.elim
      | cons _ _ => exact ⟨h.1, ih h.2 h'⟩
  exact env_args h (app g (env_rep _))
theorem nok_ok (S : NScope N ps fr F.scope) (hb : ∀ (doc pm ctv : Value) (us : List Value), us.length = ps.length → bindArgs (F.fd doc pm ctv) ⟨us, []⟩ = pure (ps.zip us)) (len : ∀ cs xs x, ok cs xs x → xs.length = ps.length)
    (body : ∀ (A : Around) (outer : List PySem.Env) (s : Shared) (H : Hp) (vs : List V) (ws : List (Option V)) (E : XK), Room k (A.deeper (envF F f s.heap.objs.size)) → ∃ t, PSs (ncx (L2N.CX P w) P w K mg base N F f A outer s H E) F.body t ∧
      ∀ M cs xs x (Q : VK), Sta K M H (startF N vs ws) (xs ++ (cs ++ List.replicate (N.length - xs.length - cs.length) .z)) → ok cs xs x → (∀ v H', Same H H' → VOk K (hid M H') v x → Q v H') → t { nx := fun _ H' => Q .non H', rt := Q } (startF N vs ws) H) :
    NOk P w K mg base (L2N.CX P w) (k + 1) f F ps fr (spN K ok) :=
  nok_of S hb (fun ws vs H Q E h => by
    obtain ⟨M, cs, xs, x, _, _, a, o, _⟩ := h
    rw [Args.len a]; exact len cs xs x o) fun A outer s H vs ws Q E hr _ _ _ h => by
    obtain ⟨M, cs, xs, x, lv, ev, a, o, q⟩ := h
    obtain ⟨t, h1, h2⟩ := body A outer s H vs ws E hr
    exact ⟨t, h1, h2 M cs xs x Q ⟨lv, env_startF a ev⟩ o q⟩
theorem clo_mk {M0 : List Addr} {H0 Hc : Hp} {ws : List (Option V)} {cs : List DV} (Fn : NOk P w K mg base (L2N.CX P w) k f F ps fr (spN K ok)) (hf : H0 f = some (FnO f F)) (hcd : H0 F.c = some (CodeO F.c F.qual)) (nf : Hc f = none) (nc : Hc F.c = none)
    (hc : CellHp Hc) (s0 : Same Hc H0) (hM : ∀ c o, Hc c = some o → c ∈ M0) (hcl : ∀ y c, F.cl.lookup y = some c → ∃ o, Hc c = some o) (inj : ∀ x y c, F.cl.lookup x = some c → F.cl.lookup y = some c → x = y)
    (has : ∀ (i : Nat) (y : Str), fr[i]? = some y → ∃ c, F.cl.lookup y = some c ∧ ∀ v, ws[i]? = some (some v) → ∃ ob u, Hc c = some (CellO c ob) ∧ RelV v u ∧ ob.data = .cell (some u)) (hlen : ws.length = fr.length) (henv : Env K (hid M0 H0) ws cs) :
    Clo P w K mg base k M0 H0 f (fun xs x => ok cs xs x) := by
  refine ⟨⟨F, hf⟩, fun A outer s H us vs Q M xs x hr e0 s0H hMM sM lv args r o q => ?_⟩
  have sc : Same Hc H := s0.trans s0H
  have e0' : Env0 P w K mg base A outer s (mns Hc H) := ⟨e0.frames, e0.mod, fun b ob e => ⟨(e0.bs b ob e).1, mns_none (e0.bs b ob e).2⟩, e0.bsz, e0.funs, fun b hb => mns_none (e0.frf b hb), mns_hok e0.hok hc sc, e0.bare⟩
  have C : CellsAt F.cl fr ws s.heap (mns Hc H) := ⟨hlen, fun y c e => by
    obtain ⟨ob, h1⟩ := hcl y c e
    obtain ⟨ob', rfl, g, v, d⟩ := cell_get e0.hok hc sc h1
    exact ⟨mns_in h1, v, ob', g, d⟩, inj, fun i y e => by
    obtain ⟨c, h1, h2⟩ := has i y e
    refine ⟨c, h1, fun v ev => ?_⟩
    obtain ⟨ob, u, h3, h4, h5⟩ := h2 v ev
    have g : s.heap.get? c = some ob := (e0.hok c _ (sc c _ h3)).1
    exact ⟨u, h4, ob, g, h5⟩⟩
  have hidE : ∀ H2 : Hp, (∀ c o, Hc c = some o → H2 c = none) → hid (M.filter fun b => (Hc b).isNone) H2 = hid M (ovl Hc H2) := fun H2 n2 => by
    funext b
    cases qb : Hc b with
    | some u =>
      have hb : b ∈ M := hMM b (hM b u qb)
      rw [hid_in hb]
      by_cases hb2 : b ∈ M.filter fun b => (Hc b).isNone
      · exact hid_in hb2
      · rw [hid_out hb2]; exact n2 b u qb
    | none =>
      by_cases hb : b ∈ M
      · rw [hid_in hb, hid_in (List.mem_filter.mpr ⟨hb, by rw [qb]; rfl⟩)]
      · rw [hid_out hb, hid_out (fun z => hb (List.mem_filter.mp z).1), ovl_out qb]
  have hidH : hid (M.filter fun b => (Hc b).isNone) (mns Hc H) = hid M H := by rw [hidE _ fun c o e => mns_in e, ovl_mns sc]
  have lv' : Live (M.filter fun b => (Hc b).isNone) (mns Hc H) := fun b hb => by
    obtain ⟨h1, h2⟩ := List.mem_filter.mp hb
    have h3 : Hc b = none := by
      cases z : Hc b with
      | none => rfl
      | some u => rw [z] at h2; cases h2
    rw [mns_out h3]; exact lv b h1
  refine codeAny_mono (Fn.run A outer s (mns Hc H) us vs ws (fun v H2 => Same (mns Hc H) H2 ∧ VOk K (hid (M.filter fun b => (Hc b).isNone) H2) v x) E0 hr e0' (by rw [mns_out nf]; exact s0H _ _ hf) (by rw [mns_out nc]; exact s0H _ _ hcd) C r
    ⟨_, cs, xs, x, lv', by rw [hidH]; exact henv.mono sM, by rw [hidH]; exact args, o, fun v H' s2 o2 => ⟨s2, o2⟩⟩) fun r s' hq => ?_
  cases r with
  | error e => exact (cx_no hq).elim
  | ok fl =>
    cases fl with
    | ret u =>
      obtain ⟨v, H2, os, bare, un, hok, rv, s2, o2⟩ := hq
      obtain ⟨un', hok', n2⟩ := un_ovl un hc e0.hok hok sc fun c o e hb => by
        have := e0.frf c hb
        rw [sc c o e] at this
        cases this
      refine ⟨v, ovl Hc H2, os, bare, un', hok', rv, q v _ (fun b ob e => ?_) ?_⟩
      · cases qb : Hc b with
        | some u =>
          rw [ovl_in qb]
          rw [sc b u qb] at e
          exact e
        | none => rw [ovl_out qb]; exact s2 b ob (by rw [mns_out qb]; exact e)
      · rw [← hidE H2 n2]; exact o2
    | next => exact False.elim hq
    | brk => exact False.elim hq
    | cont => exact False.elim hq
end
end TD
set_option Elab.async false
set_option linter.all false
set_option maxRecDepth 100000
set_option maxHeartbeats 400000
/-! The statement that makes such a function: of all that stands its code's table alone grows. -/
namespace TD
open PySem PySem.Spec PyProof.Rows L2 LamX NdefX TP
/-- one more code object in the table -/
theorem tabN_put {H : Hp} {P c : Addr} {nm : Nat → Nat → Str} {ps : Array Value} {pos : Pos} {q : Str} (hP : H P = some (.tbl ps)) (ht : TriplesOk ps.toList) (ha : ∀ (p : Pos) (cv : Value), codeAmong p ps.toList = some cv → ∃ c, cv = .ref c ∧ H c = some (CodeO c (nm p.line p.col)))
    (nC : H c = none) (hn : nm pos.line pos.col = q) : TabN (upd (upd H P (.tbl (ps ++ #[rawInt pos.line, rawInt pos.col, .ref c]))) c (CodeO c q)) P nm := by
  have nPc : P ≠ c := ne_of_none hP nC
  refine ⟨ps ++ #[rawInt pos.line, rawInt pos.col, .ref c], by rw [upd_ne nPc, upd_same], ?_, fun p cv hc => ?_⟩
  · rw [Array.toList_append]; exact PySem.TriplesOk_snoc _ _ _ _ ht
  · rw [Array.toList_append] at hc
    rcases among_app2 _ ht hc with z | ⟨z, z1, z2⟩
    · obtain ⟨c0, e1, e2⟩ := ha p cv z
      refine ⟨c0, e1, ?_⟩
      rw [upd_ne (ne_of_none e2 nC), upd_ne fun z => by rw [z, hP] at e2; exact codeO_ne _ (Option.some.inj e2).symm]
      exact e2
    · exact ⟨c, z, by rw [← z1, ← z2, hn]; exact upd_same⟩
/-- tables elsewhere stay -/
theorem tabN_gr {H H' : Hp} {P : Addr} {nm : Nat → Nat → Str} {T : List Addr} (t : TabN H P nm) (n : P ∉ T) (g : Gr T H H') (code : ∀ b ∈ T, ∀ c q, H c = some (CodeO c q) → c ≠ b) : TabN H' P nm := by
  obtain ⟨ps, h1, h2, h3⟩ := t
  refine ⟨ps, g _ _ n h1, h2, fun pos cv hc => ?_⟩
  obtain ⟨c, e1, e2⟩ := h3 pos cv hc
  exact ⟨c, e1, g _ _ (fun z => code c z c _ e2 rfl) e2⟩
def tNdefG (T : List NTab) (P : Addr) (i : Nat) (mk : Addr → NF) : TS := fun D σ H => TabsN T H ∧ ∀ (f c' : Addr) (H1 : Hp), Gr [P] H H1 → TabsN T H1 → H f = none → H1 f = some (FnO f (mk c')) → H1 c' = some (CodeO c' (mk c').qual) → D.nx (σ.set i (some (.ref f))) H1
section
variable {X : Cx} {pins : List (Addr × Obj)} {σ : L2.St} {H : Hp} {s : Shared}
theorem ndef_makeG {T : List NTab} {nm : Nat → Nat → Str} {c P : Addr} {name : Str} {params : Arguments} {body : List Stmt} {scope : Scope} {pos : Pos} {E : Value → Shared → Prop} {Q : Value → Shared → Prop} (I : Inv X pins σ H s) (TB : TabB X.base X.mg c P) (hcode : X.env.code = .ref c)
    (hm : (P, nm) ∈ T) (hn : nm pos.line pos.col = X.env.qual ++ name) (hu : ∀ p ∈ T, p.1 = P → p.2 = nm) (hT : TabsN T H) (hfree : ∀ y ∈ scope.names, y.2 = .free → ∃ c, X.env.cells.lookup y.1 = some c)
    (h : ∀ (f c' : Addr) (H1 : Hp) (s' : Shared), Inv X pins σ H1 s' → Gr [P] H H1 → TabsN T H1 → H f = none → H1 f = some (FnO f ⟨name, X.env.qual ++ name, params, body, scope, cloFrom X.env.cells scope.names [], c'⟩) → H1 c' = some (CodeO c' (X.env.qual ++ name)) → Q (.ref f) s') :
    wpAny (model X.prog X.w) X.A (makeFunction name (X.env.qual ++ name) params (.stmts body) scope X.env [] [] [] pos pos.line) Q E s := by
  obtain ⟨ps, hP, ht, ha⟩ := (show TabN H P nm from hT _ hm)
  have hP' : s.heap.get? P = some { cls := .none, data := .fields ps } := I.hok P _ hP
  cases hc : codeAmong pos ps.toList with
  | some cv =>
    obtain ⟨c', rfl, hco⟩ := ha pos cv hc
    rw [hn] at hco
    refine PySem.W.makeFunction_hit (mg := X.mg) (c := c) (P := P) (ps := ps) (closure_ok hfree) I.ok.glob (I.mod.glob.keeps I.bk) hcode (TB.code.keeps I.bk) hP' ht hc (TB.bm.keeps I.bk) fun ctv doc h' tk hx hsz => ?_
    have J : Inv X pins σ H { s with heap := h', toks := tk } := I.kept hx
    have nF : H h'.objs.size = none := J.hok.fresh (Nat.le_refl _)
    have s1 := same_new nF (FnO h'.objs.size ⟨name, X.env.qual ++ name, params, body, scope, cloFrom X.env.cells scope.names [], c'⟩)
    exact h h'.objs.size c' _ _ (inv_fn (t' := tk) (doc := doc) (pm := (X.mg "__name__").getD .none) (ctv := ctv) J rfl) (Same.gr s1) (hT.ext s1) nF upd_same (s1 _ _ hco)
  | none =>
    refine PySem.W.makeFunction_K (mg := X.mg) (c := c) (P := P) (ps := ps) (closure_ok hfree) I.ok.glob (I.mod.glob.keeps I.bk) hcode (TB.code.keeps I.bk) hP' ht hc TB.gP (TB.bm.keeps I.bk) fun c' ctv doc h' tk hx hge hlt hrec htb => ?_
    obtain ⟨c2, oc, vs, t, e2, hoc, hd, hv⟩ := hrec
    cases e2
    have nC : H c' = none := I.hok.fresh hge
    have J := inv_table (t' := tk) (more := #[rawInt pos.line, rawInt pos.col, .ref c']) (h' := h') I hP (fun b o hb e => hx b o hb e) htb hge ⟨oc, vs, t, hoc, hd, hv⟩
    have g1 : Gr [P] H (upd (upd H P (.tbl (ps ++ #[rawInt pos.line, rawInt pos.col, .ref c']))) c' (CodeO c' (X.env.qual ++ name))) := fun b o nb e => by
      rw [upd_ne (ne_of_none e nC), upd_ne fun z => nb (by rw [z]; exact List.mem_singleton.mpr rfl)]; exact e
    have T1 : TabsN T (upd (upd H P (.tbl (ps ++ #[rawInt pos.line, rawInt pos.col, .ref c']))) c' (CodeO c' (X.env.qual ++ name))) := fun p hp => by
      by_cases hb : p.1 = P
      · rw [hu p hp hb, hb]
        exact tabN_put hP ht ha nC hn
      · refine tabN_gr (hT p hp) (by simpa using hb) g1 fun b hb' c0 q0 e0 => ?_
        rintro rfl
        rw [List.mem_singleton.mp hb', hP] at e0
        exact codeO_ne _ (Option.some.inj e0).symm
    have nF := J.hok.fresh (Nat.le_refl _)
    have J2 := inv_fn (F := ⟨name, X.env.qual ++ name, params, body, scope, cloFrom X.env.cells scope.names [], c'⟩) (t' := tk) (doc := doc) (pm := (X.mg "__name__").getD .none) (ctv := ctv) J rfl
    have s2 := same_new nF (FnO h'.objs.size ⟨name, X.env.qual ++ name, params, body, scope, cloFrom X.env.cells scope.names [], c'⟩)
    exact h h'.objs.size c' _ _ J2 (g1.trans (Same.gr s2)) (T1.ext s2) (I.hok.fresh (Nat.le_trans hge (Nat.le_of_lt hlt))) upd_same (s2 _ _ upd_same)
theorem ps_ndefG {st : Stmt} {T : List NTab} {nm : Nat → Nat → Str} {c P : Addr} {name : Str} {pos : Pos} {i : Nat} (hst : st = .FunctionDef name (C8.fnArgs st) (C8.fnBody st) [] none [] (C8.fnScope st) none name pos) (TB : TabB X.base X.mg c P) (hcode : X.env.code = .ref c) (hm : (P, nm) ∈ T) (hn : nm pos.line pos.col = X.env.qual ++ name)
    (hu : ∀ p ∈ T, p.1 = P → p.2 = nm) (hfree : ∀ y ∈ (C8.fnScope st).names, y.2 = .free → X.env.scope.names.lookup y.1 = some .cell ∨ X.env.scope.names.lookup y.1 = some .free) (hd0 : (C8.fnArgs st).defaults = []) (hk0 : (C8.fnArgs st).kw_defaults = []) (ha : annTrees (C8.fnArgs st) none X.env = [])
    (hN : X.N.Nodup) (hi : X.N[i]? = some name) (hx : Loc X.env.scope name) (hf : X.fn name = true ∨ X.env.scope.names.lookup name = some .local) :
    PS X st (tNdefG T P i (NF.of st name (X.env.qual ++ name) (cloFrom X.env.cells (C8.fnScope st).names []))) := by
  have key : PS X (.FunctionDef name (C8.fnArgs st) (C8.fnBody st) [] none [] (C8.fnScope st) none name pos) (tNdefG T P i (NF.of st name (X.env.qual ++ name) (cloFrom X.env.cells (C8.fnScope st).names []))) := by
    refine ⟨fun pins s σ H D I h => ?_⟩
    obtain ⟨hT, h⟩ := h
    have hq : qualnameIn X.env name name = X.env.qual ++ name := by
      have hk : X.env.kindOf name = some .local ∨ X.env.kindOf name = some .cell := hx
      unfold qualnameIn
      rcases hk with k | k <;> rw [k] <;> first | rfl | exact if_neg (by decide)
    refine PySem.W.nestDef_K hd0 hk0 ha ?_
    rw [hq]
    have hfr : ∀ y ∈ (C8.fnScope st).names, y.2 = .free → ∃ c, X.env.cells.lookup y.1 = some c := fun y hy e => (hfree y hy e).elim (fun z => I.ok.has _ (.inl z)) fun z => I.ok.has _ (.inr z)
    exact ndef_makeG I TB hcode hm hn hu hT hfr fun f c' H1 s' I1 g1 T1 f0 f1 c1 => store_ok I1 hN hi hx (v := .ref f) rfl (fun s'' J => ⟨_, H1, J, h f c' H1 g1 T1 f0 f1 c1⟩) hf
  rw [← hst] at key
  exact key
end
section
variable {K : PySem.W.Frag} {M : List Addr} {H : Hp} {σ : L2.St} {ρ : List DV} {D : Ends} {tz : TS} {i : Nat}
theorem q_ndef {T : List NTab} {P : Addr} {nm : Nat → Nat → Str} {mk : Addr → NF} (s : Sta K M H σ ρ) (hP : P ∈ M) (hm : (P, nm) ∈ T) (hT : TabsN T H) (k : ∀ f c' H', Gr [P] H H' → TabsN T H' → H f = none → H' f = some (FnO f (mk c')) → H' c' = some (CodeO c' (mk c').qual) → Sta K M H' (σ.set i (some (.ref f))) (ρ.set i (.v (.ref f))) → tz D (σ.set i (some (.ref f))) H') :
    tSeq (tNdefG T P i mk) tz D σ H := ⟨hT, fun f c' H1 g t f0 f1 c1 => by
  refine k f c' H1 g t f0 f1 c1 ⟨fun m hm' => ?_, ?_⟩
  · by_cases e : m = P
    · obtain ⟨ps, e1, _⟩ := t _ hm
      rw [e, e1]; simp
    · cases q : H m with
      | none => exact absurd q (s.lv m hm')
      | some o => rw [g m o (by simpa using e) q]; simp
  · exact (s.env.mono (Gr.hid g (by simpa using hP))).set i (SOk.of (x := .v (.ref f)) rfl)⟩
end
end TD
set_option Elab.async false
set_option linter.all false
set_option maxRecDepth 100000
set_option maxHeartbeats 400000
/-! Defs that make functions: what is known of their code's table; their promise. -/
namespace TD
open PySem PySem.Spec PyProof.Rows L2 LamX NdefX TP
/-- the table of the code object at c -/
def tabP (K : PySem.W.Frag) (c : Addr) : Addr := match K.lookup c with
  | some ⟨_, _, .fields vs, _⟩ => match (vs[11]? : Option Value) with
    | some (.ref P) => P
    | _ => 0
  | _ => 0
/-- a def as the top has left it, its code object told -/
structure DefAtC (K : PySem.W.Frag) (x : Str) (st : Stmt) (f c : Addr) : Prop where
  at_ : PySem.W.nsIn K mainGlobals x = some (some (.ref f))
  lk : ∃ (oc : Value) (od : Option Addr) (kV doc pm : Value) (an : Option Addr) (ct : Value) (osl : Array (Option Value)),
    K.lookup f = some ⟨oc, od, .func (PySem.W.fnOf x x (defArgs st) (defBody st) (defScope st) .none kV doc pm an (.ref c) ct), osl⟩ ∧ PySem.W.codeIn K (.ref c) x = true
  kp : PySem.W.keepIn K (.ref f) = true
theorem defC_mk {K : PySem.W.Frag} {x : Str} {st : Stmt} {f c : Addr} {od an : Option Addr} {sl : Array (Option Value)} {oc kV doc pm ct : Value} {h : Heap} (a : PySem.W.nsIn K mainGlobals x = some (some (.ref f)))
    (l : K.lookup f = some ⟨oc, od, .func (PySem.W.fnOf x x (defArgs st) (defBody st) (defScope st) .none kV doc pm an (.ref c) ct), sl⟩) (d : PySem.W.codeIn K (.ref c) x = true) (k : PySem.W.keepIn K (.ref f) = true)
    (e : PySem.W.codeHdIn K c (tabP K c) = true) (g : h.get? (tabP K c) = some { cls := .none, data := .fields #[] }) (n : K.lookup (tabP K c) = none) :
    ∃ f c, DefAtC K x st f c ∧ PySem.W.codeHdIn K c (tabP K c) = true ∧ h.get? (tabP K c) = some { cls := .none, data := .fields #[] } ∧ K.lookup (tabP K c) = none :=
  ⟨f, c, ⟨a, ⟨_, _, _, _, _, _, _, _, l, d⟩, k⟩, e, g, n⟩
/-- the name that a function made at this place bears -/
def nmT (st : Stmt) (q : Str) : Nat → Nat → Str := fun l c => match (defBody st).find? fun s => match s with
    | .FunctionDef _ _ _ _ _ _ _ _ _ p => p.line == l && p.col == c
    | _ => false with
  | some (.FunctionDef n _ _ _ _ _ _ _ _ _) => q ++ n
  | _ => q
/-- the promise of a def that changes nothing but the tables T -/
def spTab (T : List NTab) (K : PySem.W.Frag) (ok : List DV → DV → Prop) (bad : List DV → Value → Prop) : Sp := fun vs H Q E => ∃ M xs, (∀ b ∈ T.map (·.1), b ∈ M) ∧ Live M H ∧ TabsN T H ∧ Args K (hid M H) vs xs ∧
  ((∃ x, ok xs x ∧ ∀ v H', Gr (T.map (·.1)) H H' → TabsN T H' → VOk K (hid M H') v x → Q v H') ∨ ∃ C, bad xs C ∧ ∀ H', Same H H' → E C none H')
section
variable {P : Program} {w : World} {K : PySem.W.Frag} {mg : Str → Option Value} {base : Heap}
theorem def_okTab {x : Str} {st : Stmt} {N ps : List Str} {k : Nat} {c : Addr} {T : List NTab} {ok : List DV → DV → Prop} {bad : List DV → Value → Prop} (d : ∃ f, DefAtC K x st f c) (hmg : ∀ f, PySem.W.nsIn K mainGlobals x = some (some (.ref f)) → mg x = some (.ref f)) (S : FnScope N ps (defScope st))
    (hbind : ∀ (kV doc pm : Value) (an : Option Addr) (cdv ct : Value) (us : List Value), us.length = ps.length → bindArgs (PySem.W.fnOf x x (defArgs st) (defBody st) (defScope st) .none kV doc pm an cdv ct) ⟨us, []⟩ = pure (ps.zip us))
    (len : ∀ xs, ((∃ y, ok xs y) ∨ ∃ C, bad xs C) → xs.length = ps.length)
    (body : ∀ (f : Addr) (A : Around) (outer : List PySem.Env) (s : Shared) (H : Hp) (vs : List V) (E : XK), Room k (A.deeper (envOfC x (defScope st) s.heap.objs.size f (.ref c))) →
      ∃ t, PSs (cxOf (L2N.CX P w) P w K mg base N x (defScope st) f (.ref c) A outer s H E) (defBody st) t ∧ ∀ (M : List Addr) (xs : List DV) (Q : VK), Sta K M H (L2.start N vs) (xs ++ List.replicate (N.length - xs.length) .z) → (∀ b ∈ T.map (·.1), b ∈ M) → TabsN T H →
        ((∃ x, ok xs x ∧ ∀ v H', Gr (T.map (·.1)) H H' → TabsN T H' → VOk K (hid M H') v x → Q v H') ∨ ∃ C, bad xs C ∧ ∀ H', Same H H' → E C none H') → t { nx := fun _ H' => Q .non H', rt := Q } (L2.start N vs) H) :
    FnIs P w K mg base (L2N.CX P w) (k + 1) x ps (spTab T K ok bad) := by
  obtain ⟨f, at_, ⟨oc, od, kV, doc, pm, an, ct, osl, lk, cd⟩, kp⟩ := d
  have F := fun_mk (st := st) lk cd kp
  refine ⟨f, _, fn_of lk cd S (fun vs H Q E h => ?_) (fun A outer s H vs Q E hr h => ?_), hmg f at_, kp, F.binds hbind⟩
  · obtain ⟨M, xs, _, _, _, ha, h⟩ := h
    rw [ha.len]
    exact len xs (h.imp (fun ⟨y, o, _⟩ => ⟨y, o⟩) fun ⟨C, b, _⟩ => ⟨C, b⟩)
  · obtain ⟨M, xs, tm, lv, tb, ha, h⟩ := h
    obtain ⟨t, h1, h2⟩ := body f A outer s H vs E hr
    exact ⟨t, h1, h2 M xs Q ⟨lv, env_start ha⟩ tm tb h⟩
/-- the tables T are among what may change -/
class HasTab (t : Tw) (T : List NTab) : Prop where
  mem : ∀ b ∈ T.map (·.1), b ∈ t.L
  tab : ∀ H, t.At H → TabsN T H
  put : ∀ H H', t.At H → Gr (T.map (·.1)) H H' → TabsN T H' → t.At H'
instance hasTab_twN (p : Addr) (T : List NTab) : HasTab (twN p T) T where
  mem := fun b hb => List.mem_cons_of_mem _ hb
  tab := fun H h => h.2
  put := fun H H' h g tb => by
    obtain ⟨⟨y, r, h0, h1, e⟩, tb0⟩ := h
    refine ⟨⟨y, r, h0, h1, g _ _ (fun z => ?_) e⟩, tb⟩
    obtain ⟨q, hq, e1⟩ := List.mem_map.mp z
    obtain ⟨ps, e2, _⟩ := tb0 q hq
    rw [e1, e] at e2; cases e2
/-- the tables alone -/
def twT (T : List NTab) : Tw where
  a := 0
  L := T.map (·.1)
  At := TabsN T
  live := fun H h b hb e => by
    obtain ⟨q, hq, rfl⟩ := List.mem_map.mp hb
    obtain ⟨ps, h3, _⟩ := h q hq
    rw [h3] at e; cases e
  gr := fun H H' Z h3 g n q hq => by
    obtain ⟨ps, e1, e2, e3⟩ := h3 q hq
    refine ⟨ps, g _ _ (fun z => (n _ z).1 (List.mem_map.mpr ⟨q, hq, rfl⟩)) e1, e2, fun pos cv hc => ?_⟩
    obtain ⟨c, e4, e5⟩ := e3 pos cv hc
    refine ⟨c, e4, g _ _ (fun z => ?_) e5⟩
    rcases (n _ z).2 _ e5 with ⟨_, e6⟩ | ⟨_, e6⟩ <;> cases e6
instance hasTab_twT (T : List NTab) : HasTab (twT T) T := ⟨fun _ h => h, fun _ h => h, fun _ _ _ _ h => h⟩
/-- a call of such a def where more may change -/
theorem et_callTab {c : Cz} {ρ : List DV} {t : Tw} {T : List NTab} [ht : HasTab t T] {E : XK} {ta : TA} {ok : List DV → DV → Prop} {bad : List DV → Value → Prop} {xs : List DV} {x : DV} {Pr : DV → Prop} (ha : EvA c ta ρ xs) (h : ok xs x) (p : Pr x) : EvT c t (tCall (spTab T c.K ok bad) [] E ta) ρ Pr := fun n H1 σ a w Q q => by
  refine ha H1 σ a _ fun vs H2 s2 o2 => ?_
  rw [List.append_nil]
  have w2 : TownAt t H2 := w.same s2
  exact ⟨c.M, xs, fun b hb => n.2 b (ht.mem b hb), (a.same s2).lv, ht.tab _ w2, o2, .inl ⟨x, h, fun v H' g tb o => q v x H' p ((Same.gr s2).trans (g.mono ht.mem)) (ht.put _ _ w2 g tb) o⟩⟩
/-- the rule for a def that calls such defs -/
theorem def_okTab2 {x : Str} {st : Stmt} {N ps : List Str} {k : Nat} {T : List NTab} {ok : List DV → DV → Prop} {bad : List DV → Value → Prop} (d : ∃ f, DefAt K x st f) (hmg : ∀ f, PySem.W.nsIn K mainGlobals x = some (some (.ref f)) → mg x = some (.ref f)) (S : FnScope N ps (defScope st))
    (hbind : ∀ (kV doc pm : Value) (an : Option Addr) (cdv ct : Value) (us : List Value), us.length = ps.length → bindArgs (PySem.W.fnOf x x (defArgs st) (defBody st) (defScope st) .none kV doc pm an cdv ct) ⟨us, []⟩ = pure (ps.zip us))
    (len : ∀ xs, ((∃ y, ok xs y) ∨ ∃ C, bad xs C) → xs.length = ps.length)
    (body : ∀ (f : Addr) (cdv : Value) (A : Around) (outer : List PySem.Env) (s : Shared) (H : Hp) (vs : List V) (E : XK), Room k (A.deeper (envOfC x (defScope st) s.heap.objs.size f cdv)) →
      ∃ t, PSs (cxOf (L2N.CX P w) P w K mg base N x (defScope st) f cdv A outer s H E) (defBody st) t ∧ ∀ (M : List Addr) (xs : List DV) (Q : VK), StaT K M (twT T) H (L2.start N vs) (xs ++ List.replicate (N.length - xs.length) .z) →
        ((∃ x, ok xs x ∧ ∀ v H', Gr (T.map (·.1)) H H' → TabsN T H' → VOk K (hid M H') v x → Q v H') ∨ ∃ C, bad xs C ∧ ∀ H', Same H H' → E C none H') → t { nx := fun _ H' => Q .non H', rt := Q } (L2.start N vs) H) :
    FnIs P w K mg base (L2N.CX P w) (k + 1) x ps (spTab T K ok bad) := by
  obtain ⟨f, at_, ⟨oc, od, kV, doc, pm, an, cdv, ct, osl, lk, cd⟩, kp⟩ := d
  have F := fun_mk (st := st) lk cd kp
  refine ⟨f, _, okXN F S (fun vs H Q E h => ?_) (fun cdv A outer s H vs Q E hr h => ?_), hmg f at_, kp, F.binds hbind⟩
  · obtain ⟨M, xs, _, _, _, ha, h⟩ := h
    rw [ha.len]
    exact len xs (h.imp (fun ⟨y, o, _⟩ => ⟨y, o⟩) fun ⟨C, b, _⟩ => ⟨C, b⟩)
  · obtain ⟨M, xs, tm, lv, tb, ha, h⟩ := h
    obtain ⟨t, h1, h2⟩ := body f cdv A outer s H vs E hr
    exact ⟨t, h1, h2 M xs Q ⟨⟨lv, env_start ha⟩, tm, tb⟩ h⟩
/-- a function made here, told by its promise -/
theorem clo_here {X : Cx} {σ : L2.St} {H1 Hc : Hp} {k : Nat} {F : NF} {f : Addr} {ps fr : List Str} {js : List Nat} {M0 : List Addr} {cs : List DV} {ok : List DV → List DV → DV → Prop} (cp : CellsP X σ H1 Hc) (Fn : NOk P w K mg base (L2N.CX P w) k f F ps fr (spN K ok))
    (hcl : F.cl = cloFrom X.env.cells F.scope.names []) (hnd : ndefB X.env.scope F.scope fr = true) (hjs : js.map (fun j => X.N[j]?) = fr.map some) (hf : H1 f = some (FnO f F)) (hcd : H1 F.c = some (CodeO F.c F.qual)) (hM : ∀ c o, Hc c = some o → c ∈ M0)
    (henv : Env K (hid M0 (ovl Hc H1)) (js.map (slotAt σ)) cs) : Clo P w K mg base k M0 (ovl Hc H1) f (fun xs x => ok cs xs x) := by
  have hfree : ∀ y ∈ F.scope.names, y.2 = .free → ∃ c, X.env.cells.lookup y.1 = some c := fun y hy e => cp.has y.1 (ndef_free hnd y hy e)
  have no : ∀ {b : Addr} {o : HO}, H1 b = some o → Hc b = none := fun {b o} e => by
    cases q : Hc b with
    | none => rfl
    | some u => rw [cp.new b u q] at e; cases e
  have cm : ∀ y c, F.cl.lookup y = some c → X.env.cells.lookup y = some c := fun y c e => by rw [hcl] at e; exact clo_cm hfree e
  refine clo_mk (ws := js.map (slotAt σ)) Fn (by rw [ovl_out (no hf)]; exact hf) (by rw [ovl_out (no hcd)]; exact hcd) (no hf) (no hcd) cp.hp ovl_ge hM (fun y c e => cp.all y c (cm y c e)) (fun x y c e1 e2 => cp.inj x y c (cm x c e1) (cm y c e2)) (fun i y e => ?_) ?_ henv
  · have hy : (y, NameKind.free) ∈ F.scope.names := ndef_fr hnd y (List.mem_of_getElem? e)
    obtain ⟨c, hc⟩ := hfree _ hy rfl
    refine ⟨c, by rw [hcl]; exact clo_has hfree hy hc, fun v ev => ?_⟩
    have e2 : (js.map fun j => X.N[j]?)[i]? = some (some y) := by rw [hjs, List.getElem?_map, e]; rfl
    rw [List.getElem?_map] at e2
    cases ej : js[i]? with
    | none => rw [ej] at e2; cases e2
    | some j =>
      rw [ej] at e2
      have hj : X.N[j]? = some y := Option.some.inj e2
      rw [List.getElem?_map, ej] at ev
      have ev2 : σ[j]? = some (some v) := slotAt_some (Option.some.inj ev)
      obtain ⟨c', ob, u, h1, h2, h3, h4⟩ := cp.val j y v hj ev2 (ndef_free hnd _ hy rfl)
      rw [hc] at h1
      cases h1
      exact ⟨ob, u, h2, h3, h4⟩
  · have q := congrArg List.length hjs
    rw [List.length_map, List.length_map] at q
    rw [List.length_map]; exact q
end
end TD
set_option Elab.async false
set_option linter.all false
set_option maxRecDepth 100000
set_option maxHeartbeats 400000
/-! The smallest word found: its promise; steps of the search. -/
namespace TP
open PySem TD
section
variable {σ : Type} [DecidableEq σ] {found : W → Bool} {st : W → σ} {ls : W}
theorem procW_cons (c : W) (cs V L : List W) : procW found st (c :: cs) V L = if found c then .inl c else if st c ∈ V.map st then procW found st cs V L else procW found st cs (V ++ [c]) (L ++ [c]) := rfl
theorem procW_app : ∀ (as bs V L : List W), procW found st (as ++ bs) V L = (match procW found st as V L with
    | .inl c => .inl c
    | .inr (V', L') => procW found st bs V' L')
  | [], bs, V, L => rfl
  | a :: as, bs, V, L => by
    rw [List.cons_append, procW_cons, procW_cons]
    split
    · rfl
    · split
      · exact procW_app as bs V L
      · exact procW_app as bs _ _
theorem procW_one (c : W) (V L : List W) : procW found st [c] V L = if found c then .inl c else if st c ∈ V.map st then .inr (V, L) else .inr (V ++ [c], L ++ [c]) := rfl
theorem bfsW_succ (n : Nat) (q V : List W) : bfsW found st ls (n + 1) q V = if q = [] then some none else match procW found st (cands ls q) V [] with
    | .inl c => some (some c)
    | .inr (V', L) => bfsW found st ls n L V' := rfl
theorem cands_take_succ {q : List W} {i : Nat} {w : W} (h : q[i]? = some w) : cands ls (q.take (i + 1)) = cands ls (q.take i) ++ ls.map fun c => w ++ [c] := by
  unfold cands
  rw [List.take_add_one, h, List.flatMap_append]
  simp
theorem map_take_succ {q : W} {i : Nat} {c : Nat} (f : Nat → W) (h : q[i]? = some c) : (q.take (i + 1)).map f = (q.take i).map f ++ [f c] := by
  rw [List.take_add_one, h, List.map_append]; rfl
theorem good_nil (h0 : found [] = false) : Good found ls [] := ⟨fun c hc => by simp at hc, fun u hu => by
  have : u = [] := List.prefix_nil.mp hu
  rw [this]; exact h0⟩
end
/-- what is asked of the two functions that smallest is given -/
structure SmOk (okF okS : List DV → DV → Prop) (found : W → Bool) (st : W → List NestedKey) (ls : W) (N : Nat) : Prop where
  asc : ls.Pairwise (· < ·)
  few : ls.length ≤ 1000
  small : N ≤ 50000
  f0 : okF [.d (ds [])] (.d (.bool (found [])))
  f1 : ∀ u c, Good found ls u → c ∈ ls → u.length < N → okF [.d (ds (u ++ [c]))] (.d (.bool (found (u ++ [c]))))
  s0 : ∀ u, Good found ls u → u.length ≤ N → okS [.d (ds u)] (.d (NestedKey.tup (st u)).data) ∧ (NestedKey.tup (st u)).depth ≤ 8
  same : ∀ u v, Good found ls u → Good found ls v → st u = st v → ∀ z, found (u ++ z) = found (v ++ z)
  fin : ∀ V : List W, (∀ v ∈ V, Good found ls v) → (V.map st).Nodup → V.length ≤ N
def kvsV (st : W → List NestedKey) (V : List W) : List (NestedKey × D) := V.map fun v => (NestedKey.tup (st v), .bool true)
theorem kvsV_get {st : W → List NestedKey} {V : List W} {k : List NestedKey} : (nget (kvsV st V) (NestedKey.tup k)).isSome = decide (k ∈ V.map st) := by
  unfold nget kvsV
  rw [Option.isSome_map, List.find?_map, Option.isSome_map]
  by_cases h : k ∈ V.map st
  · rw [decide_eq_true h, List.find?_isSome]
    obtain ⟨v, hv, e⟩ := List.mem_map.mp h
    exact ⟨v, hv, by simp [e]⟩
  · rw [decide_eq_false h, Bool.eq_false_iff]
    intro z
    rw [List.find?_isSome] at z
    obtain ⟨v, hv, e⟩ := z
    simp at e
    exact h (List.mem_map.mpr ⟨v, hv, e⟩)
theorem kvsV_none {st : W → List NestedKey} {V : List W} {k : List NestedKey} (h : k ∉ V.map st) : nget (kvsV st V) (NestedKey.tup k) = none := by
  have := kvsV_get (st := st) (V := V) (k := k)
  rw [decide_eq_false h] at this
  exact Option.isNone_iff_eq_none.mp (by rw [← Option.not_isSome, this]; rfl)
end TP
namespace TD
open PySem PySem.Spec PyProof.Rows L2 TP
def spSm (P : Program) (w : World) (K : PySem.W.Frag) (mg : Str → Option Value) (base : Heap) : Sp := fun vs H Q _ => ∃ (M : List Addr) (ls : W) (f g : Addr) (okF okS : List DV → DV → Prop) (found : W → Bool) (st : W → List NK) (N : Nat), Live M H ∧
  Args K (hid M H) vs [.d (encW (ls.map fun c => [c])), .v (.ref f), .v (.ref g)] ∧ Clo P w K mg base 40 M H f okF ∧ Clo P w K mg base 40 M H g okS ∧ SmOk okF okS found st ls N ∧
  ∀ v H' r, Same H H' → Finds found ls r → VOk K (hid M H') v (.d (encO r)) → Q v H'
section
variable {P : Program} {w : World} {K : PySem.W.Frag} {M : List Addr} {H : Hp} {σ : L2.St} {ρ : List DV} {D : Ends} {te : TE} {tz : TS} {i j : Nat} {x : DV}
/-- a, b = e, {} -/
theorem q_parN (s : Sta K M H σ ρ) (h : EvX (cz K M H) te ρ x) (k : ∀ p σ' H', H p = none → p ∉ M → Same (hid M H) (hid (p :: M) H') → Same H H' → Sta K (p :: M) H' σ' ((ρ.set i x).set j (.v (.ref p))) → MN P w (p :: M) H' p [] → tz D σ' H') : tSeq (tPar i j (tCons te (tCons (tNNew P w) tNil))) tz D σ H :=
  h H σ s.at _ fun v H2 s2 o2 p hp => by
    have st := s.same s2
    have nm : p ∉ M := st.lv.new hp
    have sn := same_new hp (NDO P w p [])
    have st3 := st.push (o := NDO P w p []) hp
    exact ⟨_, _, rfl, k p _ _ (by cases e : H p with | none => rfl | some o => rw [s2 _ _ e] at hp; cases hp) nm ((Same.hid s2).trans (hid_new hp sn)) (s2.trans sn) ((st3.set (o2.mono (hid_new hp sn))).set (x := .v (.ref p)) rfl) (mn_new hp)⟩
end
end TD
set_option linter.all false
set_option maxHeartbeats 400000
/-! Mapping letter by letter; round trips. -/
namespace TP
open TD
def isOpen (t : Tb) (b : W) : Bool := decide (b = []) || t.any fun p => decide (b.length < p.1.length) && starts p.1 b
theorem longestN_pre {t : Tb} {b z : W} (h : isOpen t b = false) : ∀ n, n ≤ (b ++ z).length → longestN t (b ++ z) n = longestN t b (min n b.length)
  | 0, _ => by rw [Nat.zero_min]; rfl
  | n + 1, hn => by
    by_cases hb : n + 1 ≤ b.length
    · rw [Nat.min_eq_left hb]
      have ih := longestN_pre (t := t) (b := b) (z := z) h n (by omega)
      rw [Nat.min_eq_left (by omega)] at ih
      unfold longestN
      rw [List.take_append_of_le_length hb, ih]
    · have ih := longestN_pre (t := t) (b := b) (z := z) h n (by omega)
      rw [Nat.min_eq_right (by omega)] at ih
      rw [Nat.min_eq_right (by omega), ← ih]
      have hg : (get t ((b ++ z).take (n + 1))).isSome = false := by
        rw [Bool.eq_false_iff]
        intro hs
        obtain ⟨p, hp, e⟩ := List.mem_map.mp (get_isSome.mp hs)
        have hl : p.1.length = n + 1 := by rw [e, List.length_take]; omega
        have hp2 : starts p.1 b = true := starts_iff.mpr ⟨z.take (n + 1 - b.length), by
          rw [e, List.take_append, List.take_of_length_le (by omega)]⟩
        have : isOpen t b = true := by
          unfold isOpen
          rw [Bool.or_eq_true, List.any_eq_true]
          exact .inr ⟨p, hp, by rw [Bool.and_eq_true, decide_eq_true_eq]; exact ⟨by omega, hp2⟩⟩
        rw [h] at this; cases this
      conv => lhs; unfold longestN
      rw [hg]; rfl
theorem open_longest {t : Tb} {b z : W} (h : isOpen t b = false) : longest t (b ++ z) = longest t b := by
  unfold longest
  rw [longestN_pre h _ (Nat.min_le_right _ _)]
  congr 1
  rw [List.length_append]; omega
theorem open_ne {t : Tb} {b : W} (h : isOpen t b = false) : b ≠ [] := fun e => by rw [e] at h; cases h
def feedO (t : Tb) (b : W) : Option (W × W) :=
  if h : isOpen t b = true then some (b, []) else
    match e : longest t b with
    | none => none
    | some k => (feedO t (b.drop k.length)).map fun r => (r.1, val t k ++ r.2)
termination_by b.length
decreasing_by
  have := longest_len e
  rw [List.length_drop]
  omega
theorem feedO_open {t : Tb} {b : W} (h : isOpen t b = true) : feedO t b = some (b, []) := by rw [feedO, dif_pos h]
theorem feedO_none {t : Tb} {b : W} (h : isOpen t b = false) (e : longest t b = none) : feedO t b = none := by
  rw [feedO, dif_neg (by rw [h]; simp)]
  split
  · rfl
  · rename_i k e2; rw [e] at e2; cases e2
theorem feedO_some {t : Tb} {b k : W} (h : isOpen t b = false) (e : longest t b = some k) : feedO t b = (feedO t (b.drop k.length)).map fun r => (r.1, val t k ++ r.2) := by
  rw [feedO, dif_neg (by rw [h]; simp)]
  split
  · rename_i e2; rw [e] at e2; cases e2
  · rename_i k2 e2; rw [e] at e2; cases e2; rfl
/-- what is fed maps as before -/
theorem feedO_map {t : Tb} : ∀ (n : Nat) {b r o : W}, b.length ≤ n → feedO t b = some (r, o) → ∀ z, mapped t (b ++ z) = (mapped t (r ++ z)).map (o ++ ·)
  | n, b, r, o, hn, h, z => by
    cases ho : isOpen t b with
    | true =>
      rw [feedO_open ho] at h
      cases h
      cases mapped t (b ++ z) <;> rfl
    | false =>
      cases e : longest t b with
      | none => rw [feedO_none ho e] at h; cases h
      | some k =>
        rw [feedO_some ho e] at h
        obtain ⟨⟨r', o'⟩, h1, h2⟩ := Option.map_eq_some_iff.mp h
        cases h2
        have l := longest_len e
        have hb := open_ne ho
        rw [mapped_some (by simp [hb]) (by rw [open_longest ho]; exact e), List.drop_append_of_le_length l.2.1]
        cases n with
        | zero => exact absurd (List.length_eq_zero_iff.mp (by omega)) hb
        | succ n =>
          rw [feedO_map n (by rw [List.length_drop]; omega) h1 z, Option.map_map]
          congr 1
          funext x
          simp
theorem feedO_end {t : Tb} : ∀ (n : Nat) {b r o : W}, b.length ≤ n → feedO t b = some (r, o) → isOpen t r = true
  | n, b, r, o, hn, h => by
    cases ho : isOpen t b with
    | true => rw [feedO_open ho] at h; cases h; exact ho
    | false =>
      cases e : longest t b with
      | none => rw [feedO_none ho e] at h; cases h
      | some k =>
        rw [feedO_some ho e] at h
        obtain ⟨⟨r', o'⟩, h1, h2⟩ := Option.map_eq_some_iff.mp h
        cases h2
        have l := longest_len e
        cases n with
        | zero => exact absurd (List.length_eq_zero_iff.mp (by omega)) (open_ne ho)
        | succ n => exact feedO_end n (by rw [List.length_drop]; omega) h1
/-- a text that can be mapped on can be fed -/
theorem feedO_total {t : Tb} {z : W} : ∀ (n : Nat) {b : W}, b.length ≤ n → (mapped t (b ++ z)).isSome = true → (feedO t b).isSome = true
  | n, b, hn, h => by
    cases ho : isOpen t b with
    | true => rw [feedO_open ho]; rfl
    | false =>
      have hb := open_ne ho
      cases e : longest t b with
      | none => rw [mapped_none (by simp [hb]) (by rw [open_longest ho]; exact e)] at h; cases h
      | some k =>
        have l := longest_len e
        rw [mapped_some (by simp [hb]) (by rw [open_longest ho]; exact e), Option.isSome_map, List.drop_append_of_le_length l.2.1] at h
        rw [feedO_some ho e, Option.isSome_map]
        cases n with
        | zero => exact absurd (List.length_eq_zero_iff.mp (by omega)) hb
        | succ n => exact feedO_total n (by rw [List.length_drop]; omega) h
/-- sizes -/
theorem feedO_len {t : Tb} {m : Nat} (hv : ∀ p ∈ t, p.2.length ≤ m) : ∀ (n : Nat) {b r o : W}, b.length ≤ n → feedO t b = some (r, o) → r.length ≤ b.length ∧ o.length ≤ b.length * m
  | n, b, r, o, hn, h => by
    cases ho : isOpen t b with
    | true => rw [feedO_open ho] at h; cases h; simp
    | false =>
      cases e : longest t b with
      | none => rw [feedO_none ho e] at h; cases h
      | some k =>
        rw [feedO_some ho e] at h
        obtain ⟨⟨r', o'⟩, h1, h2⟩ := Option.map_eq_some_iff.mp h
        cases h2
        have l := longest_len e
        cases n with
        | zero => exact absurd (List.length_eq_zero_iff.mp (by omega)) (open_ne ho)
        | succ n =>
          obtain ⟨h3, h4⟩ := feedO_len hv n (b := b.drop k.length) (by rw [List.length_drop]; omega) h1
          rw [List.length_drop] at h3 h4
          have h5 : (val t k).length ≤ m := val_le hv k
          refine ⟨Nat.le_trans h3 (Nat.sub_le _ _), ?_⟩
          show (val t k ++ o').length ≤ _
          rw [List.length_append]
          have e1 : b.length = (b.length - k.length) + k.length := by omega
          have h6 : k.length * m + (b.length - k.length) * m = b.length * m := by rw [← Nat.add_mul]; congr 1; omega
          have h7 : m ≤ k.length * m := Nat.le_mul_of_pos_left m (by omega)
          omega
def opens (t : Tb) : List W := [] :: t.flatMap fun p => [p.1.take 1, p.1.take 2]
theorem mem_opens {t : Tb} {r : W} (h3 : ∀ p ∈ t, p.1.length ≤ 3) (h : isOpen t r = true) : r ∈ opens t := by
  unfold isOpen at h
  rw [Bool.or_eq_true, decide_eq_true_eq, List.any_eq_true] at h
  rcases h with rfl | ⟨p, hp, h⟩
  · exact List.mem_cons_self
  · rw [Bool.and_eq_true, decide_eq_true_eq] at h
    obtain ⟨z, e⟩ := starts_iff.mp h.2
    have h4 := h3 p hp
    have e2 : r = p.1.take r.length := by rw [e, List.take_left' rfl]
    by_cases h0 : r = []
    · rw [h0]; exact List.mem_cons_self
    · refine List.mem_cons_of_mem _ (List.mem_flatMap.mpr ⟨p, hp, ?_⟩)
      have h1 := List.length_pos_iff.mpr h0
      have : r.length = 1 ∨ r.length = 2 := by omega
      rcases this with q | q <;> rw [q] at e2 <;> rw [← e2] <;> simp
theorem flatMap_two {α β : Type} (f g : α → β) : ∀ l : List α, (l.flatMap fun x => [f x, g x]).length = 2 * l.length
  | [] => rfl
  | a :: l => by
    rw [List.flatMap_cons, List.length_append, flatMap_two f g l]
    show 2 + 2 * l.length = 2 * (l.length + 1)
    omega
theorem opens_len (t : Tb) : (opens t).length = 1 + 2 * t.length := by
  unfold opens
  rw [List.length_cons, flatMap_two]; omega
/-! the letters of a scheme -/
theorem lettersW_asc {s : Sc} (h : Scheme s) : (lettersW s).Pairwise (· < ·) := by
  have h1 : (letters s).Pairwise (· < ·) := by
    unfold letters
    have := asc_lt h.asc
    rw [List.pairwise_map] at this ⊢
    exact this.sublist List.filter_sublist
  rw [← lettersW_map, List.pairwise_map] at h1
  exact h1.imp fun {a b} h => by
    rcases List.cons_lt_cons_iff.mp h with h | ⟨_, h⟩
    · exact h
    · exact absurd h (List.not_lt_nil _)
theorem Scheme.mappedL {s : Sc} {w : W} (h : Scheme s) (hw : ∀ c ∈ w, [c] ∈ s.map (·.1)) : ∃ y, TP.mapped (TP.writeT s) w = some y ∧ y.length ≤ w.length * 3 := by
  have := split_total (t := TP.writeT s) _ (Nat.le_refl _) fun c hc => by
    rw [h.writeT, get_isSome]; exact hw c hc
  obtain ⟨ps, e⟩ := Option.isSome_iff_exists.mp this
  have e2 : TP.mapped (TP.writeT s) w = some ((ps.map (val (TP.writeT s))).flatten) := by unfold TP.mapped; rw [e]; rfl
  exact ⟨_, e2, mapped_le (writeT_val fun p hp => (h.tgt1 p hp).2) e2⟩
theorem over_letters {s : Sc} {w : W} : Over (lettersW s) w ↔ ∀ c ∈ w, [c] ∈ s.map (·.1) := by
  unfold Over
  exact ⟨fun h c hc => lettersW_mem.mp (h c hc), fun h c hc => lettersW_mem.mpr (h c hc)⟩
/-! round trips -/
def lost (s : Sc) (w : W) : Bool := !survives s w
structure Trip (s : Sc) (u b o r d : W) : Prop where
  wr : feedO (writeT s) u = some (b, o)
  rd : feedO (readT s) o = some (r, d)
  pre : u = d ++ u.drop d.length
  go : ∀ z, (mapped (writeT s) (b ++ z) = none → survives s (u ++ z) = decide (u ++ z = [])) ∧ ∀ y, mapped (writeT s) (b ++ z) = some y → survives s (u ++ z) = decide (mapped (readT s) (r ++ y) = some (u.drop d.length ++ z))
theorem trip_of {s : Sc} (h : Scheme s) {u : W} (hu : ∀ c ∈ u, [c] ∈ s.map (·.1)) (hs : survives s u = true) : ∃ b o r d, Trip s u b o r d := by
  obtain ⟨y, e, _⟩ := h.mappedL hu
  have e' : mapped (writeT s) (u ++ []) = some y := by rw [List.append_nil]; exact e
  obtain ⟨⟨b, o⟩, e1⟩ := Option.isSome_iff_exists.mp (feedO_total (z := []) _ (Nat.le_refl _) (by rw [e']; rfl))
  have m1 := feedO_map _ (Nat.le_refl _) e1
  have ey := m1 []
  rw [List.append_nil, List.append_nil, e] at ey
  obtain ⟨yb, hyb, ey2⟩ := Option.map_eq_some_iff.mp ey.symm
  have hs2 : mapped (readT s) y = some u := by
    unfold survives trans at hs
    rw [e] at hs
    exact of_decide_eq_true hs
  rw [← ey2] at hs2
  obtain ⟨⟨r, d⟩, e2⟩ := Option.isSome_iff_exists.mp (feedO_total (z := yb) _ (Nat.le_refl _) (by rw [hs2]; rfl))
  have m2 := feedO_map _ (Nat.le_refl _) e2
  have eu := m2 yb
  rw [hs2] at eu
  obtain ⟨q, hq, eu2⟩ := Option.map_eq_some_iff.mp eu.symm
  have ep : u.drop d.length = q := by rw [← eu2, List.drop_left' rfl]
  refine ⟨b, o, r, d, e1, e2, by rw [ep]; exact eu2.symm, fun z => ⟨fun hn => ?_, fun y2 hy2 => ?_⟩⟩
  · unfold survives trans
    rw [m1 z, hn]
    show decide (mapped (readT s) [] = some (u ++ z)) = _
    rw [mapped_nil]
    by_cases hz : u ++ z = []
    · rw [hz]; simp
    · rw [decide_eq_false hz, decide_eq_false]
      intro h; exact hz (Option.some.inj h).symm
  · unfold survives trans
    rw [m1 z, hy2]
    show decide (mapped (readT s) (o ++ y2) = some (u ++ z)) = _
    rw [m2 y2, ep]
    congr 1
    conv => lhs; rhs; rw [← eu2, List.append_assoc]
    cases mapped (readT s) (r ++ y2) with
    | none => simp
    | some x => simp
/-- the state of a word -/
def tripT (s : Sc) (u : W) : W × W × W := match feedO (writeT s) u with
  | none => ([], [], [])
  | some (b, o) => match feedO (readT s) o with
    | none => (b, [], [])
    | some (r, d) => (b, r, u.drop d.length)
theorem Trip.st {s : Sc} {u b o r d : W} (t : Trip s u b o r d) : tripT s u = (b, r, u.drop d.length) := by
  unfold tripT
  rw [t.wr]
  dsimp only
  rw [t.rd]
theorem good_trip {s : Sc} (h : Scheme s) {u : W} (g : Good (lost s) (lettersW s) u) : ∃ b o r d, Trip s u b o r d := by
  refine trip_of h (over_letters.mp g.1) ?_
  have := g.2 u (List.prefix_refl _)
  unfold lost at this
  simpa using this
theorem trip_same {s : Sc} (h : Scheme s) {u v : W} (gu : Good (lost s) (lettersW s) u) (gv : Good (lost s) (lettersW s) v) (e : tripT s u = tripT s v) (z : W) : lost s (u ++ z) = lost s (v ++ z) := by
  obtain ⟨b, o, r, d, tu⟩ := good_trip h gu
  obtain ⟨b', o', r', d', tv⟩ := good_trip h gv
  rw [tu.st, tv.st] at e
  obtain ⟨rfl, e2⟩ := Prod.mk.inj e
  obtain ⟨rfl, e3⟩ := Prod.mk.inj e2
  unfold lost
  congr 1
  cases hm : mapped (writeT s) (b ++ z) with
  | none =>
    rw [(tu.go z).1 hm, (tv.go z).1 hm]
    have ne : ∀ {x o2 : W}, feedO (writeT s) x = some (b, o2) → x ++ z ≠ [] := fun {x o2} hx hz => by
      have := feedO_map _ (Nat.le_refl _) hx z
      rw [hz, mapped_nil, hm] at this
      cases this
    rw [decide_eq_false (ne tu.wr), decide_eq_false (ne tv.wr)]
  | some y => rw [(tu.go z).2 y hm, (tv.go z).2 y hm, e3]
theorem readT_length (s : Sc) : (readT s).length ≤ s.length := by
  have := readT_len s []
  simpa [readT] using this
theorem readT_keys {s : Sc} {m : Nat} (h : ∀ p ∈ s, p.2.length ≤ m) : ∀ p ∈ readT s, p.1.length ≤ m := fun p hp => by
  have h1 : (get (readT s) p.1).isSome = true := get_isSome.mpr (List.mem_map_of_mem hp)
  obtain ⟨q, hq, e⟩ := readT_isSome.mp h1
  rw [← e]; exact h q hq
theorem nodup_inj {α β γ : Type} {f : α → β} {g : α → γ} (hi : ∀ {a b : α}, g a = g b → f a = f b) : ∀ {l : List α}, (∀ a ∈ l, ∀ b ∈ l, g a = g b → f a = f b) → (l.map f).Nodup → (l.map g).Nodup
  | [], _, _ => List.nodup_nil
  | a :: l, h, n => by
    rw [List.map_cons, List.nodup_cons] at n ⊢
    refine ⟨fun z => ?_, nodup_inj hi (fun x hx y hy => h x (List.mem_cons_of_mem _ hx) y (List.mem_cons_of_mem _ hy)) n.2⟩
    obtain ⟨b, hb, e⟩ := List.mem_map.mp z
    exact n.1 (List.mem_map.mpr ⟨b, hb, h b (List.mem_cons_of_mem _ hb) a List.mem_cons_self e⟩)
theorem nodup_injOn {α β γ : Type} {f : α → β} {g : α → γ} : ∀ {l : List α}, (∀ a ∈ l, ∀ b ∈ l, g a = g b → f a = f b) → (l.map f).Nodup → (l.map g).Nodup
  | [], _, _ => List.nodup_nil
  | a :: l, h, n => by
    rw [List.map_cons, List.nodup_cons] at n ⊢
    refine ⟨fun z => ?_, nodup_injOn (fun x hx y hy => h x (List.mem_cons_of_mem _ hx) y (List.mem_cons_of_mem _ hy)) n.2⟩
    obtain ⟨b, hb, e⟩ := List.mem_map.mp z
    exact n.1 (List.mem_map.mpr ⟨b, hb, h b (List.mem_cons_of_mem _ hb) a List.mem_cons_self e⟩)
theorem nodup_leL {α : Type} [DecidableEq α] : ∀ {l m : List α}, l.Nodup → (∀ x ∈ l, x ∈ m) → l.length ≤ m.length
  | [], _, _, _ => Nat.zero_le _
  | a :: l, m, n, h => by
    rw [List.nodup_cons] at n
    have h1 : a ∈ m := h a List.mem_cons_self
    have h2 := nodup_leL (l := l) (m := m.erase a) n.2 fun x hx => (List.mem_erase_of_ne (fun e => n.1 (by rw [← e]; exact hx))).mpr (h x (List.mem_cons_of_mem _ hx))
    rw [List.length_erase_of_mem h1] at h2
    have := List.length_pos_of_mem h1
    rw [List.length_cons]; omega
theorem pairs_le {α β : Type} (xs : List α) (ys : List β) : (xs.flatMap fun a => ys.map fun b => (a, b)).length = xs.length * ys.length := by
  induction xs with
  | nil => simp
  | cons a xs ih => rw [List.flatMap_cons, List.length_append, ih, List.length_map, List.length_cons, Nat.succ_mul]; omega
theorem trip_fin {s : Sc} (h : Scheme s) {V : List W} (hV : ∀ v ∈ V, Good (lost s) (lettersW s) v) (n : (V.map (tripT s)).Nodup) : V.length ≤ 441 := by
  have key : ∀ v ∈ V, ∃ b o r d, Trip s v b o r d := fun v hv => good_trip h (hV v hv)
  have n2 : (V.map fun v => ((tripT s v).1, (tripT s v).2.1)).Nodup := by
    refine nodup_injOn (f := tripT s) (fun u hu v hv e => ?_) n
    obtain ⟨b, o, r, d, tu⟩ := key u hu
    obtain ⟨b', o', r', d', tv⟩ := key v hv
    rw [tu.st, tv.st] at e ⊢
    obtain ⟨rfl, rfl⟩ := Prod.mk.inj e
    congr 2
    have sur : ∀ {x o2 d2 : W}, x ∈ V → Trip s x b o2 r d2 → ∃ y, mapped (writeT s) b = some y ∧ mapped (readT s) (r ++ y) = some (x.drop d2.length) := fun {x o2 d2} hx t => by
      have gx := hV x hx
      have hs : survives s x = true := by
        have := gx.2 x (List.prefix_refl _)
        unfold lost at this
        simpa using this
      obtain ⟨y, e1, _⟩ := h.mappedL (over_letters.mp gx.1)
      have e2 := feedO_map _ (Nat.le_refl _) t.wr []
      rw [List.append_nil, List.append_nil, e1] at e2
      obtain ⟨yb, hyb, _⟩ := Option.map_eq_some_iff.mp e2.symm
      refine ⟨yb, hyb, ?_⟩
      have e3 := (t.go []).2 yb (by rw [List.append_nil]; exact hyb)
      rw [List.append_nil, List.append_nil, hs] at e3
      exact of_decide_eq_true e3.symm
    obtain ⟨y1, a1, a2⟩ := sur hu tu
    obtain ⟨y2, b1, b2⟩ := sur hv tv
    rw [a1] at b1
    cases b1
    rw [a2] at b2
    exact Option.some.inj b2
  have h2 := nodup_leL (m := (opens (writeT s)).flatMap fun a => (opens (readT s)).map fun b => (a, b)) n2 fun x hx => by
    obtain ⟨v, hv, rfl⟩ := List.mem_map.mp hx
    obtain ⟨b, o, r, d, tv⟩ := key v hv
    rw [tv.st]
    refine List.mem_flatMap.mpr ⟨b, mem_opens ?_ (feedO_end _ (Nat.le_refl _) tv.wr), List.mem_map.mpr ⟨r, mem_opens (readT_keys fun p hp => (h.tgt1 p hp).2) (feedO_end _ (Nat.le_refl _) tv.rd), rfl⟩⟩
    rw [h.writeT]; exact fun p hp => (h.src1 p hp).2
  rw [List.length_map, pairs_le, opens_len, opens_len, h.writeT] at h2
  have h3 := readT_length s
  have h4 := h.ten
  have h5 : (1 + 2 * s.length) * (1 + 2 * (readT s).length) ≤ 21 * 21 := Nat.mul_le_mul (by omega) (by omega)
  omega
end TP
set_option Elab.async false
set_option linter.all false
set_option maxRecDepth 100000
set_option maxHeartbeats 400000
/-! A dict walked by its keys: locked meanwhile; displayed dicts of whole numbers. -/
namespace TD
open PySem PySem.Spec PyProof.Rows L2 TP
def dropH (d : Addr) (H : Hp) : Hp := fun b => if b = d then none else H b
theorem dropH_ne {d b : Addr} {H : Hp} (h : b ≠ d) : dropH d H b = H b := if_neg h
theorem dropH_some {d b : Addr} {H : Hp} {o : HO} (h : dropH d H b = some o) : b ≠ d ∧ H b = some o := by
  unfold dropH at h
  by_cases e : b = d
  · rw [if_pos e] at h; cases h
  · rw [if_neg e] at h; exact ⟨e, h⟩
/-- no list, no tuple -/
def NoData (H : Hp) (d : Addr) : Prop := (∀ xs, H d ≠ some (.lst xs)) ∧ (∀ o xs, H d ≠ some (.frz o (.tup xs))) ∧ ∀ o xs, H d ≠ some (.frz o (.lst xs))
section
variable {K : PySem.W.Frag} {H : Hp} {d : Addr}
mutual
theorem dq_drop (n : NoData H d) : ∀ (x : D) (v : V), Dq H v x → Dq (dropH d H) v x
  | .none, _, h => by cases h; exact .non
  | .bool b, _, h => by cases h; exact .bl b
  | .int i, _, h => by cases h; exact .int i
  | .str x, _, h => by cases h; exact .str x
  | .list ds, _, h => by
    cases h with
    | lst h1 h2 => exact .lst (by rw [dropH_ne fun e => n.1 _ (by rw [← e]; exact h1)]; exact h1) (dqAll_drop' n ds _ h2)
  | .tuple ds, _, h => by
    cases h with
    | tup h1 h0 h2 => exact .tup (by rw [dropH_ne fun e => n.2.1 _ _ (by rw [← e]; exact h1)]; exact h1) h0 (dqAll_drop' n ds _ h2)
  | .dict _, _, h => by cases h
theorem dqAll_drop' (n : NoData H d) : ∀ (ds : List D) (vs : List V), DqAll H vs ds → DqAll (dropH d H) vs ds
  | [], _, h => by cases h; exact .nil
  | x :: ds, _, h => by
    cases h with
    | cons h1 h2 => exact .cons (dq_drop n x _ h1) (dqAll_drop' n ds _ h2)
end
/-- dicts forgotten -/
def unk : DV → DV
  | .k _ => .z
  | .ks _ => .z
  | x => x
theorem env_drop (n : NoData H d) : ∀ {σ : L2.St} {ρ : List DV}, Env K H σ ρ → Env K (dropH d H) σ (ρ.map unk)
  | [], [], _ => trivial
  | o :: σ, x :: ρ, ⟨a, b⟩ => by
    refine ⟨?_, env_drop n b⟩
    cases x with
    | z => trivial
    | d x => obtain ⟨v, e, h⟩ := a; exact ⟨v, e, dq_drop n _ _ h⟩
    | v x => exact a
    | k kvs => trivial
    | ks ts => trivial
    | s ns =>
      obtain ⟨v, e, p, e2, h⟩ := a
      refine ⟨v, e, p, e2, ?_⟩
      rcases h with (h | ⟨o, h⟩) | h
      · exact .inl (.inl (by rw [dropH_ne fun e => n.1 _ (by rw [← e]; exact h)]; exact h))
      · exact .inl (.inr ⟨o, by rw [dropH_ne fun e => n.2.2 _ _ (by rw [← e]; exact h)]; exact h⟩)
      · exact .inr h
  | [], _ :: _, h => h.elim
  | _ :: _, [], h => h.elim
theorem Env.put {σ : L2.St} {ρ : List DV} {i : Nat} {v : V} {x : DV} (h : Env K H σ ρ) (e : σ[i]? = some (some v)) (o : VOk K H v x) : Env K H σ (ρ.set i x) := by
  have := h.set i (SOk.of o)
  have e3 : σ.set i (some v) = σ := by
    apply List.ext_getElem?
    intro j
    rw [List.getElem?_set]
    split
    · rename_i q; subst q; rw [e]; split
      · rfl
      · rename_i q2; rw [List.getElem?_eq_none (by omega)] at e; cases e
    · rfl
  rw [e3] at this; exact this
end
section
variable {c : Cz} {ρ : List DV} {i : Nat} {kvs : List (Key × D)} {t : TE} {x : D}
theorem kd_fst {H : Hp} {kv : List (Key × V)} {kvs : List (Key × D)} (hk : KD H kv kvs) : kv.map (·.1) = kvs.map (·.1) := by
  induction hk with
  | nil => rfl
  | cons hh _ ih => rw [List.map_cons, List.map_cons, hh.1, ih]
theorem kd_ints {H : Hp} : ∀ l : List (Int × Int), KD H (l.map fun p => ((Sum.inl p.1 : Key), V.int p.2)) (l.map fun p => ((Sum.inl p.1 : Key), PyData.int p.2))
  | [] => .nil
  | _ :: l => .cons ⟨rfl, .int _⟩ (kd_ints l)
theorem ev_lockK (hi : ρ[i]? = some (.k kvs)) (hT : c.T = []) (h : ∀ d od kv H1, d ∉ c.M → H1 d = some (.frz od (.dK kv)) → kv.map (·.1) = kvs.map (·.1) → EvX ⟨c.K, c.M, [], H1⟩ t ((ρ.map unk).set i (.v (.ref d))) (.d x)) : EvX c (tLockE t) ρ (.d x) := fun H1 σ a Q q => by
  obtain ⟨v, e1, d, kv, rfl, hd, hk⟩ := a.env.get hi (by intro z; cases z)
  obtain ⟨dM, hd1⟩ := hid_some hd
  refine ⟨d, .dK kv, hd1, trivial, fun od => ?_⟩
  have nd : NoData (c.hid H1) d := by
    have e : c.hid H1 d = some (.dK kv) := hd
    refine ⟨fun xs z => ?_, fun o xs z => ?_, fun o xs z => ?_⟩ <;> rw [e] at z <;> cases z
  have sm : Same (dropH d (c.hid H1)) (hid c.M (upd H1 d (.frz od (.dK kv)))) := fun b o e => by
    obtain ⟨h1, h2⟩ := dropH_some e
    obtain ⟨h3, h4⟩ := hid_some h2
    rw [hid_out h3, upd_ne h1]; exact h4
  have keys : kv.map (·.1) = kvs.map (·.1) := kd_fst hk
  have at2 : At ⟨c.K, c.M, [], upd H1 d (.frz od (.dK kv))⟩ (upd H1 d (.frz od (.dK kv))) σ ((ρ.map unk).set i (.v (.ref d))) := ⟨Gr.refl _ _, fun m hm e => by
    by_cases z : m = d
    · exact dM (by rw [← z]; exact hm)
    · rw [upd_ne z] at e; exact a.lv m hm e, ((env_drop nd a.env).mono sm).put e1 rfl⟩
  refine h d od kv _ dM upd_same keys _ σ at2 _ fun v H' s' o' => ?_
  have e2 : H' d = some (.frz od (.dK kv)) := s' _ _ upd_same
  refine ⟨e2, q v _ (fun b o e => ?_) ?_⟩
  · by_cases z : b = d
    · rw [z, upd_same]; rw [z, hd1] at e; exact e
    · rw [upd_ne z]; exact s' b o (by rw [upd_ne z]; exact e)
  · have nd2 : NoData (hid c.M H') d := by
      have e : hid c.M H' d = some (.frz od (.dK kv)) := by rw [hid_out dM]; exact e2
      refine ⟨fun xs z => ?_, fun o xs z => ?_, fun o xs z => ?_⟩ <;> rw [e] at z <;> cases z
    refine dq_mono (fun b o e => ?_) _ _ (dq_drop nd2 _ _ o')
    obtain ⟨h1, h2⟩ := dropH_some e
    obtain ⟨h3, h4⟩ := hid_some h2
    show hid c.M _ b = _
    rw [hid_out h3, upd_ne h1]; exact h4
theorem ei_keysL {d : Addr} {od : Obj} {kv : List (Key × V)} (hi : ρ[i]? = some (.v (.ref d))) (hT : c.T = []) (hM : d ∉ c.M) (hd : c.H d = some (.frz od (.dK kv))) (hk : kv.map (·.1) = kvs.map (·.1)) : EvI c (iKeys (tVar i)) ρ (kvs.map fun p => .d (keyD p.1)) := fun H1 σ a R r => by
  obtain ⟨v, e1, e2⟩ := a.env.get hi (by intro z; cases z)
  have e3 : v = .ref d := e2
  subst e3
  have g := a.gr
  rw [hT] at g
  have hd1 : H1 d = some (.frz od (.dK kv)) := g.same _ _ hd
  have hl : kv.length = kvs.length := by have := congrArg List.length hk; simpa using this
  refine ⟨_, e1, d, od, rfl, .inl ⟨kv, hd1, r _ _ (Same.refl _) ⟨fun M' i H' s l hi => ?_, fun M' i H' s l hi => ?_, fun M' i H' v H'' s l hi y => ?_⟩⟩⟩
  · have e4 := s d _ (by rw [hid_out hM]; exact hd1)
    rw [List.length_map] at hi
    exact ⟨(hid_some e4).2, by omega⟩
  · have e4 := s d _ (by rw [hid_out hM]; exact hd1)
    rw [List.length_map] at hi
    exact ⟨(hid_some e4).2, by omega⟩
  · obtain ⟨rfl, k, w, e5, rfl⟩ := y
    have e6 : (kvs.map (·.1))[i]? = some k := by rw [← hk, List.getElem?_map, e5]; rfl
    rw [List.getElem?_map] at e6
    obtain ⟨p, e7, e8⟩ := Option.map_eq_some_iff.mp e6
    refine ⟨Same.refl _, .d (keyD k), by rw [List.getElem?_map, e7, ← e8]; rfl, ?_⟩
    show Dq _ (kV k) (keyD k)
    cases k with
    | inl i => exact .int i
    | inr x => exact .str x
/-- {1: 2, ..} of whole numbers -/
theorem ev_dispI {l : List (Int × Int)} (hz : l.length ≤ 15) : EvX c (tDisp (l.map fun p => (tC (.int p.1), tC (.int p.2)))) ρ (.k (kmerge [] (l.map fun p => ((Sum.inl p.1 : Key), PyData.int p.2)))) := fun H1 σ a Q q p hp => by
  have key : ∀ (l : List (Int × Int)) (H : Hp) (R : List (V × V) → Hp → Prop), R (l.map fun p => (V.int p.1, V.int p.2)) H → tPairs (l.map fun p => (tC (.int p.1), tC (.int p.2))) σ H R := by
    intro l
    induction l with
    | nil => intro H R r; exact r
    | cons p l ih => intro H R r; exact ih H _ r
  refine key l _ _ ⟨upd_same, l.map fun p => ((Sum.inl p.1 : Key), V.int p.2), by rw [List.map_map]; rfl, by rw [List.length_map]; exact hz, ?_⟩
  have pn : p ∉ c.M := a.lv.new hp
  refine q _ _ (fun b o e => by rw [upd_ne (ne_of_none e hp), upd_ne (ne_of_none e hp)]; exact e) ⟨p, _, rfl, by show hid c.M _ p = _; rw [hid_out pn]; exact upd_same, ?_⟩
  exact kd_merge (kd_ints l) .nil
end
end TD
set_option Elab.async false
set_option linter.all false
set_option maxRecDepth 100000
set_option maxHeartbeats 400000
/-! A def that hands functions of its own on: its last statement. -/
namespace TD
open PySem PySem.Spec PyProof.Rows L2 LamX NdefX TP
section
variable {K : PySem.W.Frag} {M : List Addr} {H : Hp} {σ : L2.St} {ρ : List DV} {D : Ends} {ta : TA} {xs : List DV} {sp : Sp} {X : Cx}
theorem ret_W (s : Sta K M H σ ρ) (ha : EvA (cz K M H) ta ρ xs) (k : ∀ vs H1 Hc, Same H H1 → Sta K M H1 σ ρ → Args K (hid M H1) vs xs → CellsP X σ H1 Hc → sp vs (ovl Hc H1) (fun v H' => Same Hc H' ∧ D.rt v (mns Hc H')) E0) : tRet (tCallW X sp ta) D σ H :=
  ha H σ s.at _ fun vs H1 s1 o1 Hc cp => k vs H1 Hc s1 (s.same s1) o1 cp
theorem cells_hide {Hc : Hp} (cp : CellsP X σ H Hc) (s : Sta K M H σ ρ) : ∃ M0, (∀ b ∈ M, b ∈ M0) ∧ (∀ c o, Hc c = some o → c ∈ M0) ∧ Live M0 (ovl Hc H) ∧ Same (hid M H) (hid M0 (ovl Hc H)) ∧ ∀ H' v x, VOk K (hid M0 H') v x → VOk K (hid M (mns Hc H')) v x := by
  have hM : ∀ c o, Hc c = some o → c ∈ ((X.env.cells.map (·.2)).filter fun c => (Hc c).isSome) ++ M := fun c o e => by
    obtain ⟨y, hy⟩ := cp.of c o e
    refine List.mem_append_left _ (List.mem_filter.mpr ⟨List.mem_map.mpr ⟨(y, c), PySem.mem_of_lookup hy, rfl⟩, by rw [e]; rfl⟩)
  refine ⟨((X.env.cells.map (·.2)).filter fun c => (Hc c).isSome) ++ M, fun b hb => List.mem_append_right _ hb, hM, fun b hb e => ?_, fun b o e => ?_, fun H' v x h => h.mono fun b o e => ?_⟩
  · cases q : Hc b with
    | some o => rw [ovl_in q] at e; cases e
    | none =>
      rw [ovl_out q] at e
      rcases List.mem_append.mp hb with hb | hb
      · have := (List.mem_filter.mp hb).2
        rw [q] at this; cases this
      · exact s.lv b hb e
  · obtain ⟨h1, h2⟩ := hid_some e
    have q : Hc b = none := by
      cases q : Hc b with
      | none => rfl
      | some u => rw [cp.new b u q] at h2; cases h2
    rw [hid_out, ovl_out q]
    · exact h2
    · intro z
      rcases List.mem_append.mp z with z | z
      · have := (List.mem_filter.mp z).2
        rw [q] at this; cases this
      · exact h1 z
  · obtain ⟨h1, h2⟩ := hid_some e
    have q : Hc b = none := by
      cases q : Hc b with
      | none => rfl
      | some u => exact absurd (hM b u q) h1
    rw [hid_out fun z => h1 (List.mem_append_right _ z), mns_out q]; exact h2
theorem same_mns {Hc H' : Hp} (cp : CellsP X σ H Hc) (s : Same (ovl Hc H) H') : Same H (mns Hc H') := fun b o e => by
  have q : Hc b = none := by
    cases q : Hc b with
    | none => rfl
    | some u => rw [cp.new b u q] at e; cases e
  rw [mns_out q]; exact s b o (by rw [ovl_out q]; exact e)
theorem env_slots : ∀ {js : List Nat} {cs : List DV}, Env K H σ ρ → Paired (fun (j : Nat) (x : DV) => ρ[j]? = some x ∧ x ≠ .z) js cs → Env K H (js.map (slotAt σ)) cs
  | _, _, _, .nil => trivial
  | j :: js, x :: cs, h, .cons ⟨e, n⟩ t => by
    obtain ⟨v, e1, o⟩ := h.get e n
    refine ⟨?_, env_slots h t⟩
    rw [slotAt_of e1]; exact SOk.of o
end
end TD
set_option Elab.async false
set_option linter.all false
set_option maxRecDepth 100000
set_option maxHeartbeats 400000
/-! enumerate of a tuple. -/
namespace PySem
open Sem (wp)
set_option maxHeartbeats 1000000 in
theorem meets_enumerate_newT (l : Addr) (items : Array Value) :
    Meets (Builtin.«enumerate.__new__» ⟨[.type "enumerate", .ref l], []⟩) (fun _ R s => s.heap.IsTuple l items ∧
      R (.ok (.ret (.ref (s.heap.push { cls := .type "tuple_iterator", data := .fields #[.ref l, .int 0 0] }).objs.size)))
        { s with heap := (s.heap.push { cls := .type "tuple_iterator", data := .fields #[.ref l, .int 0 0] }).push { cls := .type "enumerate", data := .fields #[.none, .bool false, .ref s.heap.objs.size, rawInt 0, .none, .none] } }) :=
  .of_wp fun prog w A R s h => by
    obtain ⟨hp, g, d, tk, os⟩ := s; obtain ⟨h1, h⟩ := h
    have hsub := sub_enumerate
    have q1 : ∀ {A' : Around} {E : Value → Shared → Prop} {Q : Value → Shared → Prop}, Q (.ref hp.objs.size) ⟨hp.push { cls := .type "tuple_iterator", data := .fields #[.ref l, .int 0 0] }, g, d, tk, os⟩ → wpAny (model prog w) A' (pyIter (.ref l)) Q E ⟨hp, g, d, tk, os⟩ :=
      fun q => (begins_tuple l items).iter prog w _ _ ⟨hp, g, d, tk, os⟩ _ h1 q
    wp_walk using q1
    refine wpAny_stack_any fun st => wpAny_pure ?_
    split
    · rename_i c _ _ _ _ _
      cases (c == Value.type "enumerate")
      · wp_walk using q1
        exact ⟨_, rfl, h⟩
      · wp_walk using q1
        exact ⟨_, rfl, h⟩
    · wp_walk using q1
      exact ⟨_, rfl, h⟩
section
variable {prog : Program} {w : World} {A : Around} {E : Value → Shared → Prop} {s : Shared}
theorem call_enumerate_tup {l : Addr} {items : Array Value} {Q : Value → Shared → Prop} (hL : s.heap.IsTuple l items)
    (h : ∀ h', IsEnum h' (s.heap.objs.size + 1) s.heap.objs.size 0 .none → h'.IsTupleIter s.heap.objs.size l 0 → h'.objs.size = s.heap.objs.size + 2 →
      (∀ b o, s.heap.get? b = some o → h'.get? b = some o) → Q (.ref (s.heap.objs.size + 1)) { s with heap := h' }) :
    wpAny (model prog w) A (call (.type "enumerate") [.ref l]) Q E s := by
  refine callType_new F.called_enumerate (by decide) (F.typeCall_enumerate_1 _) (F.newCall_enumerate_1 _) (fun obj => F.args_object_init_2 obj _) F.entry_enumerate_new
    (meets_enumerate_newT l items) ⟨hL, ?_⟩
  have hz : (s.heap.push { cls := .type "tuple_iterator", data := .fields #[.ref l, .int 0 0] }).objs.size = s.heap.objs.size + 1 := Heap.size_push ..
  show _ ∧ _
  rw [hz]
  have he : IsEnum ((s.heap.push { cls := .type "tuple_iterator", data := .fields #[.ref l, .int 0 0] }).push
      { cls := .type "enumerate", data := .fields #[.none, .bool false, .ref s.heap.objs.size, rawInt 0, .none, .none] }) (s.heap.objs.size + 1) s.heap.objs.size 0 .none := by
    have := Heap.get?_push_size (s.heap.push { cls := .type "tuple_iterator", data := .fields #[.ref l, .int 0 0] })
      (o := { cls := .type "enumerate", data := .fields #[.none, .bool false, .ref s.heap.objs.size, rawInt 0, .none, .none] }) rfl
    rw [hz] at this; exact this
  refine ⟨⟨_, he, rfl⟩, h _ he ⟨_, Heap.get?_push_of_some _ (Heap.get?_push_size _ rfl), rfl, rfl⟩ (by rw [Heap.size_push, hz]) fun b o x => Heap.get?_push_of_some _ (Heap.get?_push_of_some _ x)⟩
theorem wpAny_pyNext_enum_end_tup {e it l : Addr} {i : Nat} {items : Array Value} {old : Value} {Q : Option Value → Shared → Prop} (hh : A.handled = none)
    (he : IsEnum s.heap e it i old) (hit : s.heap.IsTupleIter it l i) (hl : s.heap.IsTuple l items) (hx : items[i]? = none)
    (hQ : ∀ h', Heap.ExtBut it s.heap h' → Q none { s with heap := h' }) : wpAny (model prog w) A (pyNext (.ref e)) Q E s := by
  have hT : s.TypeIs (.ref e) "enumerate" := ⟨_, he, rfl⟩
  unfold pyNext
  refine wpAny_bind (wpAny_attempt (wpAny_callSpecial?_slot (name := Str.ofString "__next__") hT F.slot_enumerate_next
    (wpAny_call_entry F.slot_enumerate_next hT F.entry_enumerate_next ?_ (F.args_enumerate_next_1 _))))
  show wpAny _ _ (field (.ref e) 2 >>= _) _ _ _
  refine wpAny_bind (wpAny_field he rfl (x := .ref it) rfl ?_)
  refine wpAny_bind (wpAny_nextOf_tuple_end hh hit hl hx fun h' x he' hx' => ?_)
  obtain ⟨o, ho, hc⟩ := hx'
  refine wpAny_bind (wpAny_isInstance (T := "StopIteration") (b := true) ⟨o, ho, hc⟩ isSubtype_stop ?_)
  exact wpAny_pure (hQ _ he')
end
end PySem
namespace L2
open PySem PySem.Spec PyProof.Rows
/-- the tuple at a, each item in a new pair -/
def IteT (K : PySem.W.Frag) (a : Addr) : It :=
  ⟨fun i H => ∃ (xs : List V) (x : V), SqT K H a xs ∧ xs[i]? = some x, fun i H v H' => ∃ T x, v = .ref T ∧ H T = none ∧ H' = upd H T (.tup [.int (i : Nat), x]) ∧ ∀ xs, SqT K H a xs → xs[i]? = some x, fun i H => ∃ xs : List V, SqT K H a xs ∧ xs.length ≤ i⟩
theorem turn_enumT {P : Program} {w : World} {K : PySem.W.Frag} {elts : List Expr} {kk : Nat} {tpos : Pos} (a e it : Addr) :
    Turn P w K (.Tuple elts kk tpos) (IteT K a) [e, it] e (fun i h => (∃ old, IsEnum h e it ((i : Nat) : Int) old) ∧ h.IsTupleIter it a i ∧ e ≠ it ∧ e ≠ a ∧ a ≠ it) where
  mem := by simp
  obj := fun i h st b hb => by
    obtain ⟨⟨old, he⟩, ⟨o, ho, hc, hd⟩, _⟩ := st
    have e' : b = e ∨ b = it := by simpa using hb
    rcases e' with z | z
    · rw [z]; exact ⟨_, he, fun v q => nomatch q⟩
    · rw [z]; exact ⟨o, ho, fun v q => by rw [hd] at q; cases q⟩
  keep := fun i h h' st k => let ⟨⟨old, he⟩, hi, hne⟩ := st; ⟨⟨old, k e (by simp) _ he⟩, hi.at fun o q => k it (by simp) o q, hne⟩
  item := by
    intro X hP hw hK hc i pins s σ H E I hf st hg
    subst hP hw hK
    obtain ⟨⟨old, he⟩, hit, hne, hea, hai⟩ := st
    obtain ⟨xs, x, hq, hx⟩ := hg
    obtain ⟨its, rv, p, hz⟩ := I.tuple hq
    obtain ⟨u, hu, ru⟩ := rv.get hx
    have hel : e < s.heap.objs.size := Heap.lt_size he
    have hil : it < s.heap.objs.size := by obtain ⟨_, q, _⟩ := hit; exact Heap.lt_size q
    have hlt : i < its.toArray.size := by
      obtain ⟨q, _⟩ := List.getElem?_eq_some_iff.mp hu
      simpa using q
    have hp : s.heap.IsTuple a its.toArray := p
    refine wpAny_pyNext_enum_itemD (Draws.tuple (A := X.A.in1) (show X.A.in1.handled = none from I.ok.hd hc) it a hai its.toArray) he ⟨hit, hp⟩ hlt hne (by simp [hne, hea]) fun x' h' tk hx' ho st' hT hsz hk => ?_
    have ex : x' = u := by
      have h1 : its[i]? = some x' := by simpa using hx'
      rw [hu] at h1
      exact (Option.some.inj h1).symm
    subst ex
    obtain ⟨hit', hp'⟩ := st'
    refine ⟨_, rfl, wpAny_letOwnedTupleGo_enum (s := { s with heap := h', toks := tk + 1 }) ho fun h'' he' sb => ?_⟩
    have hT2 : h''.get? s.heap.objs.size = some { cls := .type "tuple", data := .seq #[.int i tk, x'] } := (sb.2 _ (Nat.ne_of_gt hel)).trans hT
    have new : ObjOk X.prog X.w (upd H s.heap.objs.size (.tup [.int (i : Nat), x])) h'' s.heap.objs.size (.tup [.int (i : Nat), x]) :=
      ⟨by show 2 ≤ sizeLine; decide, [.int i tk, x'], .cons ⟨_, rfl⟩ (.cons ru .nil), ⟨_, hT2, rfl, _, rfl⟩⟩
    have I1 : Inv X pins σ (upd H s.heap.objs.size (.tup [.int (i : Nat), x])) { s with heap := h'', toks := tk + 1 } :=
      I.turnedNew (ch := [e, it]) (fun b ob hb q => (sb.2 b (fun z => hb (by simp [z]))).trans (hk b ob (fun z => hb (by simp [z])) (fun z => hb (by simp [z])) q)) hf (Nat.le_refl _) new
    refine ⟨.ref s.heap.objs.size, _, I1, rfl, ⟨_, x, rfl, I.hok.fresh (Nat.le_refl _), rfl, fun ys hy => by rw [I.tuple_inj hy hq]; exact hx⟩, ⟨⟨x', ?_⟩, hit'.at fun o q => (sb.2 it (Ne.symm hne)).trans q, hne, hea, hai⟩, fun b hb => ?_⟩
    · have e1 : ((i + 1 : Nat) : Int) = (i : Int) + 1 := by omega
      rw [e1]; exact he'
    · have hb' : b < s.heap.objs.size := by
        have e' : b = e ∨ b = it := by simpa using hb
        rcases e' with z | z
        · rw [z]; exact hel
        · rw [z]; exact hil
      rw [upd_ne (Nat.ne_of_lt hb')]
      exact (hf b hb).1
  done := by
    intro X hP hw hK hc i pins s σ H E I hf st hg
    subst hP hw hK
    obtain ⟨⟨old, he⟩, hit, hne, hea, hai⟩ := st
    obtain ⟨xs, hq, hx⟩ := hg
    obtain ⟨its, rv, p, hz⟩ := I.tuple hq
    obtain ⟨f0, f1, f2, f3, f4, f5⟩ := hf it (by simp)
    have hl := rv.length
    have hp : s.heap.IsTuple a its.toArray := p
    exact wpAny_pyNext_enum_end_tup (I.ok.hd hc) he hit hp (by simp; omega) fun h' eb => ⟨rfl, I.turned (t' := s.toks) (fun b o hb q => eb b o hb q) f0 f1 f3 f4 f5⟩
  self := fun A i s Q E st h => let ⟨⟨_, he⟩, _⟩ := st; wpAny_pyIter_enum he h
def iEnumT (K : PySem.W.Frag) (ta : TA) : TI := fun σ H R => ta σ H fun vs H1 => ∃ a xs, vs = [.ref a] ∧ SqT K H1 a xs ∧ R (IteT K a) H1
theorem pi_enumT {X : Cx} {e : Expr} {ta : TA} {p pos tpos : Pos} {elts : List Expr} {kk : Nat} (hg : Gl X "enumerate") (hm : X.mg "enumerate" = none) (ha : PA X [e] ta) (hs : starEach [e] X.env = [(false, eval e X.env)] := by rfl) :
    PI X (.Tuple elts kk tpos) (.Call (.Name "enumerate" p) [e] [] pos) (iEnumT X.K ta) := by
  refine ⟨fun pins s σ H R I h => ?_⟩
  refine Call_ (ld_blt I hg hm boot_enumerate (PyProof.Rows.callWith_type1 (thn (ha.run pos pins s σ H _ I h) fun us s1 ⟨vs, H1, I1, r1, q1⟩ => ?_) hs rfl))
  obtain ⟨a, xs, ex, hq, q⟩ := q1
  subst ex
  cases r1 with
  | cons r rr =>
    cases rr
    cases r
    obtain ⟨its, rv, p', hz⟩ := I1.tuple hq
    have hp : s1.heap.IsTuple a its.toArray := p'
    have hal : a < s1.heap.objs.size := by obtain ⟨_, q, _⟩ := hp; exact Heap.lt_size q
    refine call_enumerate_tup hp fun h' he hit hsz hk => wpAny_pyIter_enum he ?_
    have I2 : Inv X pins σ H1 { s1 with heap := h' } := I1.kept (t' := s1.toks) hk
    refine ⟨s1.heap.objs.size + 1, [s1.heap.objs.size + 1, s1.heap.objs.size], _, _, H1, rfl, I2, turn_enumT a (s1.heap.objs.size + 1) s1.heap.objs.size, ⟨⟨.none, he⟩, hit, Nat.succ_ne_self _, Nat.ne_of_gt (Nat.lt_succ_of_lt hal), Nat.ne_of_lt hal⟩, fun b hb => ?_, q⟩
    have e' : b = s1.heap.objs.size + 1 ∨ b = s1.heap.objs.size := by simpa using hb
    have hle : s1.heap.objs.size ≤ b := by
      rcases e' with z | z
      · rw [z]; exact Nat.le_add_right _ _
      · rw [z]; exact Nat.le_refl _
    exact I1.fpOk hle (I1.hok.fresh hle)
end L2
namespace TD
open PySem PySem.Spec PyProof.Rows L2 TP
section
variable {X : Cx} {K : PySem.W.Frag} {e : Expr} {ta : TA} {pos : Pos} {c : Cz} {ρ : List DV}
theorem ki_enumT {p tpos : Pos} {elts : List Expr} {kk : Nat} (hK : X.K = K) (hg : Gl X "enumerate") (hm : X.mg "enumerate" = none) (ha : PA X [e] ta)
    (hs : starEach [e] X.env = [(false, eval e X.env)] := by rfl) :
    PI X (.Tuple elts kk tpos) (.Call (.Name "enumerate" p) [e] [] pos) (iEnumT K ta) := hK ▸ pi_enumT hg hm ha hs
theorem itOk_enumT {M : List Addr} {H2 : Hp} {a : Addr} {o : Obj} {vs : List V} {xs : List D} (h1 : hid M H2 a = some (.frz o (.tup vs))) (h2 : DqAll (hid M H2) vs xs) :
    ItOk M H2 (IteT K a) ((enumD xs).map fun p => .pr (.int (p.1 : Int)) p.2) where
  go := fun M' i H' s l hi => by
    unfold enumD at hi
    rw [List.length_map, List.length_zip, List.length_range, ← dqAll_len h2] at hi
    have a1 : i < vs.length := by omega
    exact ⟨vs, vs[i], sqT_of (s _ _ h1), List.getElem?_eq_getElem a1⟩
  stop := fun M' i H' s l hi => by
    unfold enumD at hi
    rw [List.length_map, List.length_zip, List.length_range, ← dqAll_len h2] at hi
    exact ⟨vs, sqT_of (s _ _ h1), by omega⟩
  yld := fun M' i H' v H'' s l _ y => by
    obtain ⟨T, x, rfl, hT, rfl, y1⟩ := y
    have e1 := y1 vs (sqT_of (s _ _ h1))
    obtain ⟨d, f1, f2⟩ := dqAll_get h2 e1
    have sn := Same.hid (M := M') (same_new hT (.tup [.int (i : Nat), x]))
    exact ⟨same_new hT _, .pr (.int (i : Int)) d, by rw [List.getElem?_map, enumD_get f1]; rfl, T, _, x, rfl, by rw [hid_upd_out (l.new hT)]; exact upd_same, Dq.int _, dq_mono sn _ _ (dq_mono s _ _ f2)⟩
theorem ei_enumT {xs : List D} (h : EvA c ta ρ [.d (.tuple xs)]) : EvI c (iEnumT K ta) ρ ((enumD xs).map fun p => .pr (.int (p.1 : Int)) p.2) := fun H1 σ a R r => h H1 σ a _ fun vs H2 s2 o2 => by
  obtain ⟨v, rfl, o⟩ := args1 o2
  obtain ⟨a1, o, vs, rfl, h1, _, h2⟩ := dq_tuple o
  exact ⟨a1, vs, rfl, sqT_of h1, r _ H2 s2 (itOk_enumT h1 h2)⟩
end
end TD
set_option Elab.async false
set_option linter.all false
set_option maxRecDepth 100000
set_option maxHeartbeats 400000
/-! Rules for the law's own statements; a scheme with other targets. -/
namespace TD
open PySem PySem.Spec PyProof.Rows L2 TP
section
variable {K : PySem.W.Frag} {M : List Addr} {H : Hp} {σ : L2.St} {ρ : List DV} {D : Ends} {te tb : TE} {tz : TS} {i j : Nat} {x : DV}
/-- a, b = [..], e : a is a new list, hidden -/
theorem q_parLx {ta : TA} {xs : List PyData} {y : DV} (s : Sta K M H σ ρ) (h : EvA (cz K M H) ta ρ (xs.map DV.d)) (hz : xs.length ≤ 1000) (h2 : ∀ M H, EvX (cz K M H) tb ρ y)
    (k : ∀ p σ' H', H p = none → p ∉ M → Same (hid M H) (hid (p :: M) H') → Same H H' → Sta K (p :: M) H' σ' ((ρ.set i (.v (.ref p))).set j y) → ML (p :: M) H' p xs → tz D σ' H') : tSeq (tPar i j (tCons (tLst ta) (tCons tb tNil))) tz D σ H :=
  h H σ s.at _ fun vs H2 s2 o2 => by
    have hd := args_dq o2
    refine ⟨by rw [dqAll_len hd]; exact Nat.le_trans hz (by decide), fun p hp => ?_⟩
    have st := s.same s2
    have nm : p ∉ M := st.lv.new hp
    have sn := same_new hp (HO.lst vs)
    have st3 := st.push (o := .lst vs) hp
    refine h2 (p :: M) _ _ σ st3.at _ fun v H4 s4 o4 => ⟨_, _, rfl, ?_⟩
    have m3 : ML (p :: M) (upd H2 p (.lst vs)) p xs := ⟨List.mem_cons_self, vs, upd_same, dqAll_mono (hid_new hp sn) _ _ hd⟩
    exact k p _ _ (by cases e : H p with | none => rfl | some o => rw [s2 _ _ e] at hp; cases hp) nm ((Same.hid s2).trans ((hid_new hp sn).trans (Same.hid s4))) (s2.trans (sn.trans s4)) (((st3.same s4).set (x := .v (.ref p)) rfl).set o4) (m3.same s4)
end
section
variable {K : PySem.W.Frag} {M : List Addr} {t : Tw} {Hb H : Hp} {σ : L2.St} {ρ : List DV} {D : Ends} {te : TE} {tt : TT} {tu tw tz : TS} {i j : Nat} {P : DV → Prop} {x : DV}
/-- an if whose suites go on alike -/
theorem l_ifM {R : Bool → Prop} (I : List DV → Prop) (s : StaL K M t Hb H σ ρ) (h : EvBT (czT K M t H) t tt ρ R)
    (h1 : R true → ∀ (nx : L2.St → Hp → Prop) H', StaL K M t Hb H' σ ρ → (∀ σ' ρ' H', I ρ' → StaL K M t Hb H' σ' ρ' → nx σ' H') → tu { D with nx := nx } σ H')
    (h2 : R false → ∀ (nx : L2.St → Hp → Prop) H', StaL K M t Hb H' σ ρ → (∀ σ' ρ' H', I ρ' → StaL K M t Hb H' σ' ρ' → nx σ' H') → tw { D with nx := nx } σ H')
    (k : ∀ σ' ρ' H', I ρ' → StaL K M t Hb H' σ' ρ' → tz D σ' H') : tSeq (tIfS tt tu tw) tz D σ H :=
  st_if (D := { D with nx := tz D }) s.toStaT h (fun r H' g a => h1 r _ H' (s.ofG g a) k) fun r H' g a => h2 r _ H' (s.ofG g a) k
/-- a, b = e, f by way of a tuple: drawn -/
theorem l_tup2 {K' : PySem.W.Frag} {ta : TA} {Pa Pb : DV → Prop} (s : StaL K M t Hb H σ ρ) (h : EvAT (czT K M t H) t ta ρ fun l => ∃ x xs, l = x :: xs ∧ Pa x ∧ ∃ y ys, xs = y :: ys ∧ Pb y ∧ ys = [])
    (k : ∀ x y σ' H', Pa x → Pb y → StaL K M t Hb H' σ' ((ρ.set i x).set j y) → tz D σ' H') :
    tSeq (tAsg (tTupF ta) (gTup K' 2 (gCons (gName i) (gCons (gName j) gNil)))) tz D σ H := by
    refine h s.toStaT.n H σ s.toStaT.at s.tw (fun xs H1 => xs.length ≤ sizeLine ∧ NewT xs H1 fun v H2 => gTup K' 2 (gCons (gName i) (gCons (gName j) gNil)) v σ H2 (tz D)) fun vs l H2 p g w o2 => ?_
    obtain ⟨x, _, rfl, px, y, _, rfl, py, rfl⟩ := p
    obtain ⟨v, v2, rfl, o3, o4⟩ := args2 o2
    refine ⟨by show 2 ≤ _; decide, fun q o hq ho => ?_⟩
    have sn := same_new hq (.frz o (.tup [v, v2]))
    have a2 := s.ofG g (s.toStaT.gro g w)
    have st := a2.ofS sn (a2.sta.same sn)
    refine ⟨q, _, rfl, .inl (.inr ⟨o, upd_same⟩), rfl, _, _, rfl, _, _, rfl, rfl, ?_⟩
    exact k x y _ _ px py (st.ofS (Same.refl _) ((st.sta.set (o3.mono (Same.hid sn))).set (o4.mono (Same.hid sn))))
/-- a loop whose turns are told apart -/
theorem l_forI {wi : TI} {g : TG} {α : Type} {ys : List α} {it : α → IV} {js : List Nat} {up : α → List DV → List DV} (s : StaL K M t Hb H σ ρ) (hi : EvI (cz K M H) wi ρ (ys.map it)) (hg : ∀ y ∈ ys, ∀ ρ', GOk K js g (it y) ρ' (up y ρ'))
    (R : Nat → List DV → Prop) (h0 : R 0 ρ)
    (hs : ∀ i y σ' ρ' H' Hc, ys[i]? = some y → R i ρ' → StaL K M t Hc H' σ' (up y ρ') → tu { D with nx := LS K M (fun ρ' H' => R (i + 1) ρ' ∧ TownAt t H') Hc, ct := LS K M (fun ρ' H' => R (i + 1) ρ' ∧ TownAt t H') Hc, bk := tz D } σ' H')
    (hd : ∀ σ' ρ' H', R ys.length ρ' → StaL K M t Hb H' σ' ρ' → tz D σ' H') : tSeq (tFor wi g tu) tz D σ H := by
  refine q_for s.sta hi hg (fun i ρ' H' => R i ρ' ∧ TownAt t H') (fun H1 s1 => ⟨h0, s.tw.same s1⟩) ?_ ?_
  · rintro i y σ' ρ' H' H3 Hc hy sb sm ⟨r, w⟩ s3 S3
    exact hs i y σ' ρ' H3 Hc hy r ⟨⟨S3, s.tm, w.same s3⟩, sm.trans (Same.hid s3)⟩
  · rintro σ' ρ' H' sm S3 ⟨r, w⟩
    exact hd σ' ρ' H' r ⟨⟨S3, s.tm, w⟩, s.sb.trans sm⟩
/-- a plain call at drawn arguments -/
theorem et_callP {c : Cz} {ta : TA} {ok : List DV → DV → Prop} {bad : List DV → Value → Prop} {E : XK} {R : List DV → Prop} (ha : EvAT c t ta ρ R) (h : ∀ xs, R xs → ∃ x, ok xs x ∧ P x) : EvT c t (tCall (spX c.K ok bad) [] E ta) ρ P := fun n H1 σ a w Q q =>
  ha n H1 σ a w _ fun vs xs H2 r g w2 o => by
    obtain ⟨x, k, p⟩ := h xs r
    rw [List.append_nil]
    exact ⟨c.M, xs, (a.gro n g w2).lv, o, .inl ⟨x, k, fun v H3 s3 o3 => q v x H3 p (g.trans (Same.gr s3)) (w2.same s3) o3⟩⟩
/-- all of drawn truths -/
theorem et_allT {K' : PySem.W.Frag} {ta : TE} {c : Cz} (h : EvT c t ta ρ fun x => ∃ n, x = .d (.list (List.replicate n (.bool true)))) : EvT c t (tCB (rAll K') (tCons ta tNil)) ρ (· = .d (.bool true)) :=
  et_cb (eat_one h) fun xs p => by
    obtain ⟨_, rfl, n, rfl⟩ := p
    refine ⟨_, rfl, ?_⟩
    have e := rc_all (c := c) (K := K') (xs := List.range n) (g := fun _ => true)
    have e1 : ((List.range n).map fun _ => PyData.bool true) = List.replicate n (.bool true) := by rw [List.map_const', List.length_range]
    have e2 : (List.range n).all (fun _ => true) = true := by simp
    rw [e2, e1] at e; exact e
end
end TD
namespace TD
open PySem PySem.Spec PyProof.Rows L2 LamX NdefX TP
/-- a def that makes functions, as the top has left it: its table empty -/
structure MkAt (K : PySem.W.Frag) (h : Heap) (x : Str) (st : Stmt) (f c : Addr) : Prop where
  here : DefAtC K x st f c
  hd : PySem.W.codeHdIn K c (tabP K c) = true
  tab : h.get? (tabP K c) = some { cls := .none, data := .fields #[] }
  non : K.lookup (tabP K c) = none
theorem mkAt {K : PySem.W.Frag} {x : Str} {st : Stmt} {f c : Addr} {od an : Option Addr} {sl : Array (Option Value)} {oc kV doc pm ct : Value} {h : Heap} (a : PySem.W.nsIn K mainGlobals x = some (some (.ref f)))
    (l : K.lookup f = some ⟨oc, od, .func (PySem.W.fnOf x x (defArgs st) (defBody st) (defScope st) .none kV doc pm an (.ref c) ct), sl⟩) (d : PySem.W.codeIn K (.ref c) x = true) (k : PySem.W.keepIn K (.ref f) = true)
    (e : PySem.W.codeHdIn K c (tabP K c) = true) (g : h.get? (tabP K c) = some { cls := .none, data := .fields #[] }) (n : K.lookup (tabP K c) = none) : MkAt K h x st f c :=
  ⟨⟨a, ⟨_, _, _, _, _, _, _, _, l, d⟩, k⟩, e, g, n⟩
theorem tabsN_nil {T : List NTab} {H : Hp} (h : ∀ q ∈ T, H q.1 = some (.tbl #[])) : TabsN T H := fun q hq => TabN.nil (h q hq)
end TD
set_option Elab.async false
set_option linter.all false
set_option maxRecDepth 100000
set_option maxHeartbeats 400000
/-! A scheme whose targets are replaced; the least of all short words. -/
namespace TP
open PySem TD L2
def enumL (s : Sc) : List (Nat × (W × W)) := (List.range s.length).zip s
def recode (codes : List W) (s : Sc) : Sc := (enumL s).map fun p => (p.2.1, codes.getD (p.1 % codes.length) [])
theorem zip_snd {α β γ : Type} (f : β → γ) : ∀ (xs : List α) (ys : List β), xs.length = ys.length → (xs.zip ys).map (fun p => f p.2) = ys.map f
  | [], [], _ => rfl
  | _ :: xs, _ :: ys, h => by
    rw [List.zip_cons_cons, List.map_cons, List.map_cons, zip_snd f xs ys (by simpa using h)]
  | [], _ :: _, h => by cases h
  | _ :: _, [], h => by cases h
theorem recode_src (codes : List W) (s : Sc) : (recode codes s).map (·.1) = s.map (·.1) := by
  unfold recode enumL
  rw [List.map_map]
  exact zip_snd (fun p : W × W => p.1) _ _ (List.length_range)
theorem recode_len (codes : List W) (s : Sc) : (recode codes s).length = s.length := by
  have := congrArg List.length (recode_src codes s)
  simpa using this
theorem letters_src {s s' : Sc} (h : s.map (·.1) = s'.map (·.1)) : letters s = letters s' := by
  have key : ∀ s : Sc, letters s = (s.map (·.1)).filter fun a => decide (a.length = 1) := fun s => by
    unfold letters; rw [List.filter_map]; rfl
  rw [key, key, h]
theorem lettersW_src {s s' : Sc} (h : s.map (·.1) = s'.map (·.1)) : lettersW s = lettersW s' := by unfold lettersW; rw [letters_src h]
theorem recode_ok {codes : List W} {s : Sc} (h : Scheme s) (hc : codes ≠ []) (h1 : ∀ c ∈ codes, 1 ≤ c.length ∧ c.length ≤ 3) (h2 : ∀ c ∈ codes, c.all low = true) : Scheme (recode codes s) := by
  have e := recode_src codes s
  have hs : ∀ p ∈ recode codes s, p.1 ∈ s.map (·.1) := fun p hp => by rw [← e]; exact List.mem_map.mpr ⟨p, hp, rfl⟩
  have ht : ∀ p ∈ recode codes s, p.2 ∈ codes := fun p hp => by
    obtain ⟨q, _, rfl⟩ := List.mem_map.mp hp
    have hl : q.1 % codes.length < codes.length := Nat.mod_lt _ (List.length_pos_iff.mpr hc)
    rw [List.getD_eq_getElem?_getD, List.getElem?_eq_getElem hl]
    exact List.getElem_mem hl
  have hsrc : ∀ p ∈ recode codes s, ∃ q ∈ s, p.1 = q.1 := fun p hp => by
    obtain ⟨q, hq, e⟩ := List.mem_map.mp (hs p hp)
    exact ⟨q, hq, e.symm⟩
  refine ⟨by rw [recode_len]; exact h.one, by rw [recode_len]; exact h.ten, fun p hp => ?_, fun p hp => h1 _ (ht p hp), fun p hp => ?_, fun p hp => h2 _ (ht p hp), by rw [e]; exact h.asc, by rw [e]; exact h.lets⟩
  · obtain ⟨q, hq, e⟩ := hsrc p hp
    rw [e]; exact h.src1 q hq
  · obtain ⟨q, hq, e⟩ := hsrc p hp
    rw [e]; exact h.src2 q hq
/-- the codes of the laws -/
def codes8 : List W := [[112], [113, 112], [113, 113, 112], [113, 113, 113], [113, 113], [113], [112, 112], [113, 112, 113]]
theorem codes8_ok {s : Sc} (h : Scheme s) : Scheme (recode codes8 s) := recode_ok h (by decide) (by decide) (by decide)
theorem asc_ext : ∀ {a b : W}, a.Pairwise (· < ·) → b.Pairwise (· < ·) → (∀ x, x ∈ a ↔ x ∈ b) → a = b
  | [], [], _, _, _ => rfl
  | [], y :: _, _, _, h => by have := (h y).mpr List.mem_cons_self; simp at this
  | x :: _, [], _, _, h => by have := (h x).mp List.mem_cons_self; simp at this
  | x :: a, y :: b, ha, hb, h => by
    obtain ⟨ha1, ha2⟩ := List.pairwise_cons.mp ha
    obtain ⟨hb1, hb2⟩ := List.pairwise_cons.mp hb
    have exy : x = y := by
      rcases List.mem_cons.mp ((h x).mp List.mem_cons_self) with e | m1
      · exact e
      · rcases List.mem_cons.mp ((h y).mpr List.mem_cons_self) with e | m2
        · exact e.symm
        · have := hb1 x m1; have := ha1 y m2; omega
    subst exy
    rw [asc_ext ha2 hb2 fun z => ?_]
    constructor
    · intro hz
      rcases List.mem_cons.mp ((h z).mp (List.mem_cons_of_mem _ hz)) with e | m
      · have := ha1 z hz; omega
      · exact m
    · intro hz
      rcases List.mem_cons.mp ((h z).mpr (List.mem_cons_of_mem _ hz)) with e | m
      · have := hb1 z hz; omega
      · exact m
theorem Made.lettersW_eq {l g : W} {s : Sc} (h : Made l g s) (hl : l.Pairwise (· < ·)) : lettersW s = l := asc_ext (lettersW_asc h.ok) hl h.letters
theorem anyL_asc : ∀ l ∈ anyL, l.Pairwise (· < ·) := by decide
/-- a scheme of the laws: its letters are the first one, two, three -/
def Okay (s : Sc) : Prop := Scheme s ∧ lettersW s ∈ anyL
theorem Any.okay {s : Sc} (h : Any s) : Okay s := by
  obtain ⟨l, g, m, hl, _⟩ := h
  exact ⟨m.ok, by rw [m.lettersW_eq (anyL_asc l hl)]; exact hl⟩
theorem Okay.code {s : Sc} (h : Okay s) : Okay (recode codes8 s) := ⟨codes8_ok h.1, by rw [lettersW_src (recode_src codes8 s)]; exact h.2⟩
section
variable {found : W → Bool} {ls : W} {n : Nat} {r : Option W}
/-- the first of all short words -/
theorem first_all (hl : ls.Pairwise (· < ·)) (f : Finds found ls r) {i : Nat} {w : W} (hi : (allW ls n)[i]? = some w) (hb : ∀ j x, j < i → (allW ls n)[j]? = some x → found x = false) (hw : found w = true) : r = some w := by
  have hm := mem_allW.mp (List.mem_of_getElem? hi)
  refine Finds.uniq (found := found) (ls := ls) f (show Least found ls w from ⟨hm.2, hw, fun x hx hf => ?_⟩)
  rcases Nat.lt_or_ge n x.length with h | h
  · exact .inl (by omega)
  · obtain ⟨j, hj⟩ := List.getElem?_of_mem (mem_allW.mpr ⟨h, hx⟩)
    rcases Nat.lt_trichotomy j i with q | q | q
    · rw [hb j x q hj] at hf; cases hf
    · subst q; rw [hj] at hi; cases hi; exact leL_refl _
    · have hp := allW_sorted hl n
      obtain ⟨h1, e1⟩ := List.getElem?_eq_some_iff.mp hi
      obtain ⟨h2, e2⟩ := List.getElem?_eq_some_iff.mp hj
      have := List.pairwise_iff_getElem.mp hp i j h1 h2 q
      rw [e1, e2] at this
      exact this.1
theorem none_all (f : Finds found ls r) (hb : ∀ j x, j < (allW ls n).length → (allW ls n)[j]? = some x → found x = false) {w : W} (e : r = some w) : n < w.length ∧ found w = true := by
  subst e
  have f : Least found ls w := f
  refine ⟨?_, f.hit⟩
  rcases Nat.lt_or_ge n w.length with h | h
  · exact h
  · obtain ⟨j, hj⟩ := List.getElem?_of_mem (mem_allW.mpr ⟨h, f.over⟩)
    obtain ⟨h1, _⟩ := List.getElem?_eq_some_iff.mp hj
    have := hb j w h1 hj
    rw [f.hit] at this; cases this
end
end TP
namespace TP
open PySem TD L2
section
variable {σ : Type} [DecidableEq σ] {found : W → Bool} {st : W → σ} {ls : W}
/-- the least is not longer than there are states -/
theorem least_len {N : Nat} (hc : ∀ u v, Good found ls u → Good found ls v → st u = st v → ∀ z, found (u ++ z) = found (v ++ z)) (hN : ∀ V : List W, (∀ v ∈ V, Good found ls v) → (V.map st).Nodup → V.length ≤ N) {w : W} (hw : Least found ls w) : w.length ≤ N := by
  have good : ∀ i, i < w.length → Good found ls (w.take i) := fun i hi => by
    refine ⟨fun c hc => hw.over c (List.mem_of_mem_take hc), fun u hu => ?_⟩
    cases e : found u with
    | false => rfl
    | true =>
      have h1 := hu.length_le
      rw [List.length_take] at h1
      have h2 := hw.least u (fun c hc => hw.over c (List.mem_of_mem_take (hu.subset hc))) e
      rcases h2 with h2 | h2 <;> omega
  have dist : ∀ i j, i < j → j < w.length → st (w.take i) = st (w.take j) → False := fun i j hij hj e => by
    have h1 := hc _ _ (good i (by omega)) (good j hj) e (w.drop j)
    rw [List.take_append_drop, hw.hit] at h1
    have h2 := hw.least (w.take i ++ w.drop j) (fun c hc => hw.over c (by
      rcases List.mem_append.mp hc with h | h
      · exact List.mem_of_mem_take h
      · exact List.mem_of_mem_drop h)) h1
    have h3 : (w.take i ++ w.drop j).length < w.length := by
      rw [List.length_append, List.length_take, List.length_drop]; omega
    rcases h2 with h2 | h2 <;> omega
  have := hN ((List.range w.length).map w.take) (fun v hv => by
    obtain ⟨i, hi, rfl⟩ := List.mem_map.mp hv
    exact good i (List.mem_range.mp hi)) (by
    rw [List.map_map, List.nodup_iff_pairwise_ne, List.pairwise_map]
    refine List.Pairwise.imp_of_mem (fun {a b} ha hb h e => ?_) List.pairwise_lt_range
    exact dist a b h (List.mem_range.mp hb) e)
  rw [List.length_map, List.length_range] at this
  exact this
theorem lost_len {s : Sc} (h : Scheme s) {w : W} (hw : Least (lost s) (lettersW s) w) : w.length ≤ 441 :=
  least_len (st := tripT s) (fun u v gu gv e z => trip_same h gu gv e z) (fun V hV n => trip_fin h hV n) hw
end
theorem allW_mono {ls : W} {k n : Nat} (h : k ≤ n) : (allW ls k).length ≤ (allW ls n).length := by
  induction n with
  | zero => have : k = 0 := by omega
            subst this; exact Nat.le_refl _
  | succ n ih =>
    rcases Nat.lt_or_ge n k with q | q
    · have : k = n + 1 := by omega
      subst this; exact Nat.le_refl _
    · have := ih q
      show _ ≤ (allW ls n ++ levW ls (n + 1)).length
      rw [List.length_append]; omega
theorem levW_le {ls : W} : ∀ {k : Nat}, (levW ls k).length ≤ (allW ls k).length
  | 0 => Nat.le_refl _
  | k + 1 => by show _ ≤ (allW ls k ++ levW ls (k + 1)).length; rw [List.length_append]; omega
end TP
namespace TP
open PySem TD L2
theorem finds_ex (found : W → Bool) (ls : W) : ∃ r, Finds found ls r := by
  by_cases h : ∃ u, Over ls u ∧ found u = true
  · obtain ⟨u, h1, h2⟩ := h
    obtain ⟨w, hw⟩ := least_ex h1 h2
    exact ⟨some w, hw⟩
  · refine ⟨none, fun u hu => ?_⟩
    cases e : found u with
    | false => rfl
    | true => exact absurd ⟨u, hu, e⟩ h
/-- how long the words of the laws are -/
theorem mostL {l : W} (hl : l ∈ anyL) : ∃ n : Nat, kget (kmerge [] (([(1, 14), (2, 9), (3, 6)] : List (Int × Int)).map fun p => ((Sum.inl p.1 : Key), PyData.int p.2))) (.inl (l.length : Int)) = some (.int (n : Int)) ∧ l.length ≤ 10 ∧ n ≤ 100 ∧ (allW l n).length ≤ 10000 := by
  simp only [anyL, List.mem_cons, List.not_mem_nil, or_false] at hl
  rcases hl with rfl | rfl | rfl
  · exact ⟨14, rfl, by decide, by decide, by decide +kernel⟩
  · exact ⟨9, rfl, by decide, by decide, by decide +kernel⟩
  · exact ⟨6, rfl, by decide, by decide, by decide +kernel⟩
theorem code_at (i : Nat) : atI (codes8.map ds) ((i : Int) % 8) = some (ds (codes8.getD (i % 8) [])) := by
  have e : (i : Int) % 8 = ((i % 8 : Nat) : Int) := by omega
  have hl : i % 8 < codes8.length := Nat.mod_lt _ (by decide)
  rw [e, List.getD_eq_getElem?_getD, List.getElem?_eq_getElem hl]
  exact atI_nat (by rw [List.getElem?_map, List.getElem?_eq_getElem hl]; rfl)
theorem enumD_enc (s : Sc) : (enumD (s.map encP)).map (fun p => (.pr (.int (p.1 : Int)) p.2 : IV)) = (enumL s).map fun p => .pr (.int (p.1 : Int)) (encP p.2) := by
  unfold enumD enumL
  rw [List.length_map, List.zip_map_right, List.map_map]
  rfl
theorem enumL_len (s : Sc) : (enumL s).length = s.length := by unfold enumL; rw [List.length_zip, List.length_range]; omega
theorem recode_enc (s : Sc) : ((enumL s).map fun p => encP (p.2.1, codes8.getD (p.1 % 8) [])) = (recode codes8 s).map encP := by
  unfold recode; rw [List.map_map]; rfl
end TP
set_option Elab.async false
set_option linter.all false
set_option maxRecDepth 100000
set_option maxHeartbeats 400000
/-! Lists of dicts. -/
namespace TD
open PySem PySem.Spec PyProof.Rows L2 TP
theorem paired_get {α β : Type} {R : α → β → Prop} {xs : List α} {ys : List β} (h : Paired R xs ys) : ∀ {i : Nat} {x : α}, xs[i]? = some x → ∃ y, ys[i]? = some y ∧ R x y := by
  induction h with
  | nil => intro i x e; simp at e
  | cons a _ ih =>
    intro i x e
    cases i with
    | zero => simp at e; exact ⟨_, rfl, by rw [← e]; exact a⟩
    | succ i => rw [List.getElem?_cons_succ] at e; obtain ⟨y, h1, h2⟩ := ih e; exact ⟨y, by rw [List.getElem?_cons_succ]; exact h1, h2⟩
section
variable {c : Cz} {K : PySem.W.Frag} {ρ : List DV} {ta te : TE} {tl : TA} {ts : List (List (Key × D))} {t : List (Key × D)}
theorem dcts_mono {H H' : Hp} (s : Same H H') {vs : List V} {ts : List (List (Key × D))} (h : Paired (Dct H) vs ts) : Paired (Dct H') vs ts := L2.Paired.mapP h fun _ _ z => z.mono s
theorem itOk_listK {M : List Addr} {H2 : Hp} {a : Addr} {vs : List V} (h1 : hid M H2 a = some (.lst vs)) (h2 : Paired (Dct (hid M H2)) vs ts) : ItOk M H2 (Itl K a) (ts.map .k) where
  go := fun M' i H' s l hi => by
    rw [List.length_map, ← h2.length] at hi
    exact ⟨vs, vs[i], .inl (.inl (hid_some (s _ _ h1)).2), List.getElem?_eq_getElem hi⟩
  stop := fun M' i H' s l hi => by
    rw [List.length_map, ← h2.length] at hi
    exact ⟨vs, .inl (.inl (hid_some (s _ _ h1)).2), hi⟩
  yld := fun M' i H' v H'' s l _ y => by
    obtain ⟨rfl, y⟩ := y
    have e := y vs (.inl (.inl (hid_some (s _ _ h1)).2))
    obtain ⟨d, e1, e2⟩ := paired_get h2 e
    exact ⟨Same.refl _, .k d, by rw [List.getElem?_map, e1]; rfl, e2.mono s⟩
theorem ei_ks (h : EvX c te ρ (.ks ts)) : EvI c (iSeq K te) ρ (ts.map .k) := fun H1 σ a R r => .inl (h H1 σ a _ fun v H2 s2 o2 => by
  obtain ⟨p, vs, rfl, h1, h2⟩ := o2
  exact ⟨p, rfl, ⟨vs, sqL_of h1⟩, r _ H2 s2 (itOk_listK h1 h2)⟩)
theorem ev_vks {i : Nat} (h : ρ[i]? = some (.ks ts)) : EvX c (tVar i) ρ (.ks ts) := fun H1 σ a Q q => by
  obtain ⟨v, e1, e2⟩ := a.env.get h (by intro z; cases z)
  exact ⟨v, e1, q v H1 (Same.refl _) e2⟩
/-- [e] : a list of one dict -/
theorem ev_lstK1 (h : EvX c te ρ (.k t)) : EvX c (tLst (tCons te tNil)) ρ (.ks [t]) := fun H1 σ a Q q => h H1 σ a _ fun v H2 s2 o2 => by
  refine ⟨by show 1 ≤ _; decide, fun p hp => ?_⟩
  have sn := same_new hp (HO.lst [v])
  have pn : p ∉ c.M := (a.same s2).lv.new hp
  refine q _ _ (s2.trans sn) ⟨p, [v], rfl, ?_, .cons (Dct.mono (Same.hid sn) o2) .nil⟩
  show hid c.M _ p = _
  rw [hid_out pn]; exact upd_same
/-- a comprehension whose items are dicts -/
theorem ev_lcK {wi : TI} {g : TG} {te : TE} {vs : List Nat} {α : Type} {its : List α} {it : α → IV} {f : α → List (Key × D)} {js : List Nat} {ρ' : α → List DV} (hi : EvI c wi ρ (its.map it))
    (hg : ∀ x ∈ its, GOk c.K js g (it x) (wipeD ρ vs) (ρ' x)) (hj : SubJ js vs) (he : ∀ q x, x ∈ its → EvX (c.push q) te (ρ' x) (.k (f x))) (hz : its.length ≤ 1000000) :
    EvX c (tLc wi g tYes te vs) ρ (.ks (its.map f)) := fun H1 σ a Q q => hi H1 σ a _ fun J H2 s2 ok q0 hq0 => by
  have a2 := a.same s2
  have hl : (its.map it).length = its.length := List.length_map _
  refine ⟨fun i m H' => m = its.length - i ∧ i ≤ its.length ∧ Same H2 H' ∧ ∃ acc, H' q0 = some (.lst acc) ∧ Paired (Dct (hid (q0 :: c.M) H')) acc ((its.take i).map f), ⟨_, rfl, Nat.zero_le _, same_new hq0 _, [], upd_same, .nil⟩, ?_⟩
  rintro i m H' ⟨rfl, hi', s, acc, e1, e2⟩
  have s3 : Same (hid c.M H2) (hid (q0 :: c.M) H') := hid_new hq0 s
  have lv : Live (q0 :: c.M) H' := fun b hb => by
    rcases List.mem_cons.mp hb with rfl | hb
    · rw [e1]; exact fun z => by cases z
    · exact a2.lv.same s b hb
  have hacc : acc.length ≤ i := by
    rw [e2.length, List.length_map, List.length_take]; exact Nat.min_le_left _ _
  by_cases hlt : i < its.length
  · refine .inr ⟨ok.go _ i H' s3 lv (by rw [hl]; exact hlt), _, fun H'' z => z, fun v H3 y => ?_⟩
    obtain ⟨s4, itv, f1, f2⟩ := ok.yld _ i H' v H3 s3 lv (by rw [hl]; exact hlt) y
    obtain ⟨x, hx, rfl⟩ : ∃ x, its[i]? = some x ∧ it x = itv := by
      rw [List.getElem?_map] at f1
      cases h : its[i]? with
      | none => rw [h] at f1; cases f1
      | some x => rw [h] at f1; exact ⟨x, rfl, Option.some.inj f1⟩
    have hmem : x ∈ its := List.mem_of_getElem? hx
    have A3 : Env c.K (hid (q0 :: c.M) H3) (wipe σ vs) (wipeD ρ vs) := ((a2.env.mono s3).mono (Same.hid s4)).wipe vs
    refine hg x hmem (q0 :: c.M) H3 (wipe σ vs) v _ A3 f2 fun σ' e' w' => ⟨?_, ?_⟩
    · rw [w' vs hj]; exact wipe_wipe fun j hj => hj
    · have at3 : At (c.push q0) H3 σ' (ρ' x) := ⟨a2.gr.trans (Same.gr (s.trans s4)), lv.same s4, e'⟩
      refine eb_yes H3 σ' at3 _ fun H4 s5 => ?_
      refine iteT ?_
      refine he q0 x hmem H4 σ' (at3.same s5) _ fun w H5 s6 o6 => ?_
      have e5 : H5 q0 = some (.lst acc) := s6 _ _ (s5 _ _ (s4 _ _ e1))
      have sh := Same.hid (M := q0 :: c.M) (s4.trans (s5.trans s6))
      have up : Same (hid (q0 :: c.M) H5) (hid (q0 :: c.M) (upd H5 q0 (.lst (acc ++ [w])))) := fun b o eb => by
        obtain ⟨h1, h2⟩ := hid_some eb
        rw [hid_out h1, upd_ne fun z => h1 (by rw [z]; exact List.mem_cons_self)]; exact h2
      refine ⟨acc, e5, Nat.lt_of_le_of_lt (Nat.le_trans hacc (Nat.le_of_lt (Nat.lt_of_lt_of_le hlt hz))) (by decide), its.length - (i + 1), by omega, rfl, hlt, fun b o eb => ?_, acc ++ [w], upd_same, ?_⟩
      · rw [upd_ne (ne_of_none eb hq0)]; exact s6 _ _ (s5 _ _ (s4 _ _ (s _ _ eb)))
      · rw [List.take_add_one, hx, List.map_append]
        exact Forall2.snoc (dcts_mono up (dcts_mono sh e2)) (Dct.mono up o6)
  · have e : i = its.length := by omega
    subst e
    refine .inl ⟨ok.stop _ _ H' s3 lv (by rw [hl]; exact Nat.le_refl _), q _ H' (s2.trans s) ?_⟩
    rw [List.take_length] at e2
    have hn : q0 ∉ c.M := fun z => by have := a2.lv q0 z; exact this hq0
    exact ⟨q0, acc, rfl, by show hid c.M H' q0 = _; rw [hid_out hn]; exact e1, dcts_mono hid_cons e2⟩
end
end TD
set_option Elab.async false
set_option linter.all false
set_option maxRecDepth 100000
set_option maxHeartbeats 400000
/-! Chains: mapping one after another, step by step; when two chains differ. -/
namespace TP
open PySem TD L2
def finishO : List Tb → W → Option W
  | [], w => some w
  | t :: ts, w => (mapped t w).bind (finishO ts)
def runO : List Tb → W → Option (List W × W)
  | [], w => some ([], w)
  | t :: ts, w => (feedO t w).bind fun p => (runO ts p.2).map fun q => (p.1 :: q.1, q.2)
/-- going on from the buffers -/
def finFrom : List Tb → List W → W → Option W
  | t :: ts, b :: bs, z => (mapped t (b ++ z)).bind (finFrom ts bs)
  | _, _, z => some z
theorem runO_fin : ∀ {ts : List Tb} {u x : W} {bs : List W}, runO ts u = some (bs, x) → ∀ z, finishO ts (u ++ z) = (finFrom ts bs z).map (x ++ ·)
  | [], u, x, bs, h, z => by cases h; rfl
  | t :: ts, u, x, bs, h, z => by
    unfold runO at h
    obtain ⟨⟨b, o⟩, e1, h⟩ := Option.bind_eq_some_iff.mp h
    obtain ⟨⟨bs', x'⟩, e2, h⟩ := Option.map_eq_some_iff.mp h
    cases h
    show (mapped t (u ++ z)).bind (finishO ts) = _
    rw [feedO_map _ (Nat.le_refl _) e1 z]
    show _ = ((mapped t (b ++ z)).bind (finFrom ts bs')).map (x' ++ ·)
    cases mapped t (b ++ z) with
    | none => rfl
    | some y => exact runO_fin e2 y
theorem runO_total : ∀ {ts : List Tb} {u z : W}, (finishO ts (u ++ z)).isSome = true → (runO ts u).isSome = true
  | [], _, _, _ => rfl
  | t :: ts, u, z, h => by
    have h' : ((mapped t (u ++ z)).bind (finishO ts)).isSome = true := h
    cases e : mapped t (u ++ z) with
    | none => rw [e] at h'; cases h'
    | some y =>
      rw [e] at h'
      obtain ⟨⟨b, o⟩, e1⟩ := Option.isSome_iff_exists.mp (feedO_total (z := z) _ (Nat.le_refl _) (by rw [e]; rfl))
      have e3 := feedO_map _ (Nat.le_refl _) e1 z
      rw [e] at e3
      obtain ⟨y2, e4, e5⟩ := Option.map_eq_some_iff.mp e3.symm
      have h2 : (finishO ts (o ++ y2)).isSome = true := by rw [e5]; exact h'
      obtain ⟨q, e6⟩ := Option.isSome_iff_exists.mp (runO_total h2)
      unfold runO
      rw [e1]
      show ((runO ts o).map _).isSome = true
      rw [e6]; rfl
/-! the buffers are few -/
def open1 (t : Tb) : List W := [] :: t.map fun p => if p.1.length = 1 then p.1 else p.1.take 2
theorem open1_len (t : Tb) : (open1 t).length = 1 + t.length := by unfold open1; rw [List.length_cons, List.length_map]; omega
theorem mem_open1 {s : Sc} {b : W} (h : Scheme s) (ho : isOpen s b = true) : b ∈ open1 s := by
  unfold open1
  unfold isOpen at ho
  rw [Bool.or_eq_true, List.any_eq_true, decide_eq_true_eq] at ho
  rcases ho with rfl | ⟨p, hp, hb⟩
  · exact List.mem_cons_self
  · rw [Bool.and_eq_true, decide_eq_true_eq] at hb
    obtain ⟨h1, h2⟩ := hb
    obtain ⟨z, hz⟩ := starts_iff.mp h2
    have h3 := (h.src1 p hp).2
    by_cases h0 : b = []
    · rw [h0]; exact List.mem_cons_self
    have hpos := List.length_pos_iff.mpr h0
    refine List.mem_cons_of_mem _ (List.mem_map.mpr ?_)
    by_cases hb1 : b.length = 1
    · obtain ⟨c, rfl⟩ := List.length_eq_one_iff.mp hb1
      have hc : c ∈ p.1 := by rw [hz]; simp
      have hl := h.lets
      unfold lettersIn at hl
      have := List.all_eq_true.mp (List.all_eq_true.mp hl p.1 (List.mem_map.mpr ⟨p, hp, rfl⟩)) c hc
      obtain ⟨q, hq, e⟩ := List.mem_map.mp (of_decide_eq_true this)
      exact ⟨q, hq, by rw [e]; rfl⟩
    · refine ⟨p, hp, ?_⟩
      rw [if_neg (by omega), hz, List.take_append_of_le_length (by omega), List.take_of_length_le (by omega)]
def bufs : List Sc → List (List W)
  | [] => [[]]
  | s :: ss => (open1 s).flatMap fun b => (bufs ss).map (b :: ·)
def prodN : List Sc → Nat
  | [] => 1
  | s :: ss => (1 + s.length) * prodN ss
theorem flatMap_len {α β : Type} {f : α → List β} {n : Nat} : ∀ {l : List α}, (∀ x ∈ l, (f x).length = n) → (l.flatMap f).length = l.length * n
  | [], _ => by simp
  | a :: l, h => by
    rw [List.flatMap_cons, List.length_append, h a List.mem_cons_self, flatMap_len fun x hx => h x (List.mem_cons_of_mem _ hx), List.length_cons]
    rw [Nat.add_mul, Nat.one_mul, Nat.add_comm]
theorem bufs_len : ∀ A : List Sc, (bufs A).length = prodN A
  | [] => rfl
  | s :: ss => by
    show ((open1 s).flatMap _).length = _
    rw [flatMap_len (n := prodN ss) fun x _ => by rw [List.length_map, bufs_len ss], open1_len]
    rfl
theorem runO_bufs : ∀ {A : List Sc} {u x : W} {bs : List W}, (∀ s ∈ A, Scheme s) → runO A u = some (bs, x) → bs ∈ bufs A
  | [], _, _, _, _, h => by cases h; exact List.mem_singleton.mpr rfl
  | s :: ss, u, x, bs, hA, h => by
    unfold runO at h
    obtain ⟨⟨b, o⟩, e1, h⟩ := Option.bind_eq_some_iff.mp h
    obtain ⟨⟨bs', x'⟩, e2, h⟩ := Option.map_eq_some_iff.mp h
    cases h
    have ho := feedO_end _ (Nat.le_refl _) e1
    exact List.mem_flatMap.mpr ⟨b, mem_open1 (hA s List.mem_cons_self) ho, List.mem_map.mpr ⟨bs', runO_bufs (fun s hs => hA s (List.mem_cons_of_mem _ hs)) e2, rfl⟩⟩
theorem runO_len : ∀ {A : List Sc} {u x : W} {bs : List W}, (∀ s ∈ A, Scheme s) → runO A u = some (bs, x) → bs.length = A.length ∧ x.length ≤ u.length * 3 ^ A.length
  | [], _, _, _, _, h => by cases h; exact ⟨rfl, by simp⟩
  | s :: ss, u, x, bs, hA, h => by
    unfold runO at h
    obtain ⟨⟨b, o⟩, e1, h⟩ := Option.bind_eq_some_iff.mp h
    obtain ⟨⟨bs', x'⟩, e2, h⟩ := Option.map_eq_some_iff.mp h
    cases h
    obtain ⟨i1, i2⟩ := runO_len (fun s hs => hA s (List.mem_cons_of_mem _ hs)) e2
    have l := (feedO_len (m := 3) (fun p hp => ((hA s List.mem_cons_self).tgt1 p hp).2) _ (Nat.le_refl _) e1).2
    refine ⟨by rw [List.length_cons, List.length_cons, i1], Nat.le_trans i2 ?_⟩
    rw [List.length_cons, Nat.pow_succ, Nat.mul_comm (3 ^ ss.length) 3, ← Nat.mul_assoc]
    exact Nat.mul_le_mul_right _ l
/-! two chains -/
/-- a chain that maps all words over the letters -/
structure Tot (ls : W) (A : List Sc) : Prop where
  ok : ∀ s ∈ A, Scheme s
  few : A.length ≤ 2
  tot : ∀ w, Over ls w → (finishO A w).isSome = true
def differ (A B : List Sc) (w : W) : Bool := !decide (finishO A w = finishO B w)
def stateD (A B : List Sc) (u : W) : (List W × List W) × (W × W) := match runO A u, runO B u with
  | some (a, x), some (b, y) => ((a, b), (x.drop (min x.length y.length), y.drop (min x.length y.length)))
  | _, _ => (([], []), ([], []))
section
variable {ls : W} {A B : List Sc}
theorem run_of {u : W} (h : Tot ls A) (hu : Over ls u) : ∃ a x, runO A u = some (a, x) := by
  have := h.tot u hu
  obtain ⟨⟨a, x⟩, e⟩ := Option.isSome_iff_exists.mp (runO_total (ts := A) (u := u) (z := []) (by rw [List.append_nil]; exact this))
  exact ⟨a, x, e⟩
theorem min_split {p q a b : W} (h : p ++ a = q ++ b) : ∃ r, p = r ++ p.drop (min p.length q.length) ∧ q = r ++ q.drop (min p.length q.length) := by
  refine ⟨p.take (min p.length q.length), (List.take_append_drop _ _).symm, ?_⟩
  have : p.take (min p.length q.length) = q.take (min p.length q.length) := by
    have h1 := congrArg (List.take (min p.length q.length)) h
    rwa [List.take_append_of_le_length (Nat.min_le_left _ _), List.take_append_of_le_length (Nat.min_le_right _ _)] at h1
  rw [this]; exact (List.take_append_drop _ _).symm
theorem drop_or {x y : W} : x.drop (min x.length y.length) = [] ∨ y.drop (min x.length y.length) = [] := by
  rcases Nat.le_total x.length y.length with h | h
  · exact .inl (List.drop_eq_nil_of_le (by omega))
  · exact .inr (List.drop_eq_nil_of_le (by omega))
theorem good_same {u : W} (hA : Tot ls A) (hB : Tot ls B) (g : Good (differ A B) ls u) : ∃ a b r dx dy p q, runO A u = some (a, r ++ dx) ∧ runO B u = some (b, r ++ dy) ∧ stateD A B u = ((a, b), (dx, dy)) ∧
    finFrom A a [] = some p ∧ finFrom B b [] = some q ∧ dx ++ p = dy ++ q ∧ (dx = [] ∨ dy = []) := by
  obtain ⟨a, x, e1⟩ := run_of hA g.1
  obtain ⟨b, y, e2⟩ := run_of hB g.1
  have f1 := runO_fin e1 []
  have f2 := runO_fin e2 []
  rw [List.append_nil] at f1 f2
  have t1 := hA.tot u g.1
  have t2 := hB.tot u g.1
  have eq : finishO A u = finishO B u := by
    have := g.2 u (List.prefix_refl _)
    unfold differ at this
    simpa using this
  cases ep : finFrom A a [] with
  | none => rw [f1, ep] at t1; cases t1
  | some p =>
    cases eq' : finFrom B b [] with
    | none => rw [f2, eq'] at t2; cases t2
    | some q =>
      rw [f1, f2, ep, eq'] at eq
      have e3 : x ++ p = y ++ q := Option.some.inj eq
      obtain ⟨r, r1, r2⟩ := min_split e3
      have e4 : stateD A B u = ((a, b), (x.drop (min x.length y.length), y.drop (min x.length y.length))) := by unfold stateD; rw [e1, e2]
      have e5 := drop_or (x := x) (y := y)
      generalize x.drop (min x.length y.length) = dx at *
      generalize y.drop (min x.length y.length) = dy at *
      subst r1 r2
      refine ⟨a, b, r, dx, dy, p, q, e1, e2, e4, ep, eq', ?_, e5⟩
      have : r ++ (dx ++ p) = r ++ (dy ++ q) := by
        rw [← List.append_assoc, ← List.append_assoc]; exact e3
      exact List.append_cancel_left this
theorem opt_eq {r dx dy : W} {p q : Option W} : (p.map (fun z => (r ++ dx) ++ z) = q.map fun z => (r ++ dy) ++ z) ↔ (p.map (fun z => dx ++ z) = q.map fun z => dy ++ z) := by
  cases p <;> cases q <;> simp
theorem differ_same (hA : Tot ls A) (hB : Tot ls B) {u v : W} (gu : Good (differ A B) ls u) (gv : Good (differ A B) ls v) (e : stateD A B u = stateD A B v) (z : W) : differ A B (u ++ z) = differ A B (v ++ z) := by
  obtain ⟨a, b, r, dx, dy, p, q, e1, e2, e3, _⟩ := good_same hA hB gu
  obtain ⟨a', b', r', dx', dy', p', q', e1', e2', e3', _⟩ := good_same hA hB gv
  rw [e3, e3'] at e
  obtain ⟨ea, eb⟩ := Prod.mk.inj e
  obtain ⟨rfl, rfl⟩ := Prod.mk.inj ea
  obtain ⟨rfl, rfl⟩ := Prod.mk.inj eb
  unfold differ
  congr 1
  rw [decide_eq_decide, runO_fin e1 z, runO_fin e2 z, runO_fin e1' z, runO_fin e2' z]
  exact opt_eq.trans opt_eq.symm
theorem pend_eq {d1 d2 d1' d2' p q : W} (h : d1 ++ p = d2 ++ q) (h0 : d1 = [] ∨ d2 = []) (h' : d1' ++ p = d2' ++ q) (h0' : d1' = [] ∨ d2' = []) : d1 = d1' ∧ d2 = d2' := by
  have l1 := congrArg List.length h
  have l2 := congrArg List.length h'
  simp only [List.length_append] at l1 l2
  rcases h0 with rfl | rfl <;> rcases h0' with rfl | rfl
  · refine ⟨rfl, ?_⟩
    have e : d2 ++ q = d2' ++ q := h.symm.trans h'
    exact List.append_cancel_right e
  · simp at l1 l2
    have z1 : d2 = [] := List.length_eq_zero_iff.mp (by omega)
    have z2 : d1' = [] := List.length_eq_zero_iff.mp (by omega)
    exact ⟨z2.symm, z1⟩
  · simp at l1 l2
    have z1 : d1 = [] := List.length_eq_zero_iff.mp (by omega)
    have z2 : d2' = [] := List.length_eq_zero_iff.mp (by omega)
    exact ⟨z1, z2.symm⟩
  · have e : d1 ++ p = d1' ++ p := h.trans h'.symm
    exact ⟨List.append_cancel_right e, rfl⟩
theorem differ_fin (hA : Tot ls A) (hB : Tot ls B) {V : List W} (hV : ∀ v ∈ V, Good (differ A B) ls v) (n : (V.map (stateD A B)).Nodup) : V.length ≤ prodN A * prodN B := by
  have n2 : (V.map fun v => (stateD A B v).1).Nodup := nodup_injOn (f := stateD A B) (fun u hu v hv e => by
    obtain ⟨a, b, r, dx, dy, p, q, e1, e2, e3, f1, f2, f3, f4⟩ := good_same hA hB (hV u hu)
    obtain ⟨a', b', r', dx', dy', p', q', e1', e2', e3', f1', f2', f3', f4'⟩ := good_same hA hB (hV v hv)
    rw [e3, e3'] at e ⊢
    obtain ⟨ea, eb⟩ := Prod.mk.inj e
    have ea : a = a' := ea
    have eb : b = b' := eb
    subst ea eb
    rw [f1] at f1'; rw [f2] at f2'
    cases f1'; cases f2'
    obtain ⟨h1, h2⟩ := pend_eq f3 f4 f3' f4'
    rw [h1, h2]) n
  have := nodup_leL (m := (bufs A).flatMap fun a => (bufs B).map fun b => (a, b)) n2 fun w hw => by
    obtain ⟨v, hv, rfl⟩ := List.mem_map.mp hw
    obtain ⟨a, b, r, dx, dy, p, q, e1, e2, e3, _⟩ := good_same hA hB (hV v hv)
    rw [e3]
    exact List.mem_flatMap.mpr ⟨a, runO_bufs hA.ok e1, List.mem_map.mpr ⟨b, runO_bufs hB.ok e2, rfl⟩⟩
  rw [List.length_map, pairs_le, bufs_len, bufs_len] at this
  exact this
theorem differ_len (hA : Tot ls A) (hB : Tot ls B) {w : W} (hw : Least (differ A B) ls w) : w.length ≤ prodN A * prodN B :=
  least_len (st := stateD A B) (fun u v gu gv e z => differ_same hA hB gu gv e z) (fun V hV n => differ_fin hA hB hV n) hw
end
end TP
namespace TP
open PySem TD L2
/-! chains as data -/
abbrev encC (A : List Sc) : D := .tuple (A.map encS)
def decP : D → W × W
  | .tuple [.str a, .str b] => (tl a, tl b)
  | _ => ([], [])
def decS : D → Sc
  | .tuple es => es.map decP
  | _ => []
theorem decP_enc (p : W × W) : decP (encP p) = p := by
  show (tl (sw p.1), tl (sw p.2)) = p
  rw [tl_sw, tl_sw]
theorem decS_enc (s : Sc) : decS (encS s) = s := by
  show (s.map encP).map decP = s
  rw [List.map_map]
  conv => rhs; rw [← List.map_id s]
  exact List.map_congr_left fun p _ => decP_enc p
def fits2 (s1 s2 : Sc) : Bool := s1.all fun p => p.2.all fun c => decide ([c] ∈ letters s2)
def fitsL : List D → Bool
  | [x1, x2] => fits2 (decS x1) (decS x2)
  | _ => true
def isChain : D → Bool
  | .tuple xs => decide ((xs.length : Int) ≤ 2) && xs.all isScheme && fitsL xs
  | _ => false
structure Chain (A : List Sc) : Prop where
  ok : ∀ s ∈ A, Scheme s
  few : A.length ≤ 2
  fit : ∀ s1 s2, A = [s1, s2] → fits2 s1 s2 = true
theorem all_schemes : ∀ {xs : List D}, xs.all isScheme = true → ∃ A : List Sc, xs = A.map encS ∧ ∀ s ∈ A, Scheme s
  | [], _ => ⟨[], rfl, by simp⟩
  | x :: xs, h => by
    rw [List.all_cons, Bool.and_eq_true] at h
    obtain ⟨s, rfl, hs⟩ := isScheme_iff.mp h.1
    obtain ⟨A, rfl, hA⟩ := all_schemes h.2
    exact ⟨s :: A, rfl, fun z hz => by
      rcases List.mem_cons.mp hz with rfl | hz
      · exact hs
      · exact hA z hz⟩
theorem isChain_enc {A : List Sc} (h : Chain A) : isChain (encC A) = true := by
  have h1 : (A.map encS).all isScheme = true := List.all_eq_true.mpr fun x hx => by
    obtain ⟨s, hs, rfl⟩ := List.mem_map.mp hx
    exact isScheme_iff.mpr ⟨s, rfl, h.ok s hs⟩
  have hf := h.few
  show (decide _ && _ && _) = true
  rw [h1, decide_eq_true (show ((A.map encS).length : Int) ≤ 2 by rw [List.length_map]; omega)]
  match A, h with
  | [], _ => rfl
  | [_], _ => rfl
  | [s1, s2], h =>
    show fits2 (decS (encS s1)) (decS (encS s2)) = true
    rw [decS_enc, decS_enc]; exact h.fit s1 s2 rfl
  | _ :: _ :: _ :: _, h => have := h.few; simp at this
theorem isChain_iff {v : D} : isChain v = true ↔ ∃ A, v = encC A ∧ Chain A := by
  constructor
  · intro h
    cases v with
    | tuple xs =>
      have h : (decide ((xs.length : Int) ≤ 2) && xs.all isScheme && fitsL xs) = true := h
      rw [Bool.and_eq_true, Bool.and_eq_true, decide_eq_true_eq] at h
      obtain ⟨⟨h1, h2⟩, h3⟩ := h
      obtain ⟨A, rfl, hA⟩ := all_schemes h2
      rw [List.length_map] at h1
      refine ⟨A, rfl, hA, by omega, fun s1 s2 e => ?_⟩
      subst e
      have h3 : fits2 (decS (encS s1)) (decS (encS s2)) = true := h3
      rw [decS_enc, decS_enc] at h3
      exact h3
    | _ => cases h
  · rintro ⟨A, rfl, h⟩; exact isChain_enc h
theorem Chain.tot {A : List Sc} (h : Chain A) {ls : W} (hl : ∀ s, A.head? = some s → ∀ c, c ∈ ls → [c] ∈ s.map (·.1)) : Tot ls A := by
  refine ⟨h.ok, h.few, fun w hw => ?_⟩
  match A, h with
  | [], _ => rfl
  | [s], h =>
    obtain ⟨y, e, _⟩ := (h.ok s List.mem_cons_self).mappedL fun c hc => hl s rfl c (hw c hc)
    rw [(h.ok s List.mem_cons_self).writeT] at e
    show ((mapped s w).bind (finishO [])).isSome = true
    rw [e]; rfl
  | [s1, s2], h =>
    have h1 := h.ok s1 List.mem_cons_self
    have h2 := h.ok s2 (List.mem_cons_of_mem _ List.mem_cons_self)
    obtain ⟨y, e, _⟩ := h1.mappedL fun c hc => hl s1 rfl c (hw c hc)
    rw [h1.writeT] at e
    have hy : ∀ c ∈ y, [c] ∈ s2.map (·.1) := mapped_chars (p := fun c => [c] ∈ s2.map (·.1)) (fun q hq c hc => by
      have hf := h.fit s1 s2 rfl
      have := of_decide_eq_true (List.all_eq_true.mp (List.all_eq_true.mp hf q hq) c hc)
      exact (letters_mem.mp this).1) e
    obtain ⟨y2, e2, _⟩ := h2.mappedL hy
    rw [h2.writeT] at e2
    show ((mapped s1 w).bind (finishO [s2])).isSome = true
    rw [e]
    show ((mapped s2 y).bind (finishO [])).isSome = true
    rw [e2]; rfl
  | _ :: _ :: _ :: _, h => have := h.few; simp at this
theorem finishO_len : ∀ {A : List Sc} {w y : W}, (∀ s ∈ A, Scheme s) → finishO A w = some y → y.length ≤ w.length * 3 ^ A.length
  | [], _, _, _, h => by cases h; simp
  | s :: ss, w, y, hA, h => by
    obtain ⟨y1, e1, e2⟩ := Option.bind_eq_some_iff.mp (show (mapped s w).bind (finishO ss) = some y from h)
    have i := finishO_len (fun s hs => hA s (List.mem_cons_of_mem _ hs)) e2
    have l := mapped_le (b := 3) (fun p hp => ((hA s List.mem_cons_self).tgt1 p hp).2) e1
    refine Nat.le_trans i ?_
    rw [List.length_cons, Nat.pow_succ, Nat.mul_comm (3 ^ ss.length) 3, ← Nat.mul_assoc]
    exact Nat.mul_le_mul_right _ l
end TP
namespace TP
open PySem TD L2
theorem Chain.small {A : List Sc} (h : Chain A) : small (encC A) :=
  ⟨by rw [List.length_map]; have := h.few; omega, smallAll_of fun x hx => by
    obtain ⟨s, hs, rfl⟩ := List.mem_map.mp hx
    exact (h.ok s hs).small⟩
theorem eqv_C0 (A : List Sc) : PyData.eqv (encC A) (.tuple []) = decide (A = []) := by
  cases A with
  | nil => rfl
  | cons s A => rfl
theorem datas_W : ∀ l : List W, NestedKey.datas (l.map fun w => .text (sw w)) = l.map ds
  | [] => rfl
  | w :: l => by
    show NestedKey.data (.text (sw w)) :: NestedKey.datas (l.map fun w => .text (sw w)) = _
    rw [datas_W l]; rfl
theorem depths_W : ∀ l : List W, NestedKey.depthAll (l.map fun w => .text (sw w)) = 0
  | [] => rfl
  | w :: l => by
    show max (NestedKey.depth (.text (sw w))) (NestedKey.depthAll (l.map fun w => .text (sw w))) = 0
    rw [depths_W l]; rfl
def stateK (A B : List Sc) (u : W) : List NK := [.tup ((stateD A B u).1.1.map fun w => .text (sw w)), .tup ((stateD A B u).1.2.map fun w => .text (sw w)), .text (sw (stateD A B u).2.1), .text (sw (stateD A B u).2.2)]
theorem mapK_inj : ∀ {l m : List W}, (l.map fun w => (NestedKey.text (sw w))) = m.map (fun w => .text (sw w)) → l = m
  | [], [], _ => rfl
  | [], _ :: _, h => by cases h
  | _ :: _, [], h => by cases h
  | a :: l, b :: m, h => by
    rw [List.map_cons, List.map_cons] at h
    injection h with h1 h2
    injection h1 with h1
    rw [sw_inj h1, mapK_inj h2]
theorem stateK_inj {A B : List Sc} {u v : W} (e : stateK A B u = stateK A B v) : stateD A B u = stateD A B v := by
  unfold stateK at e
  simp only [List.cons.injEq, NestedKey.text.injEq, NestedKey.tup.injEq, and_true] at e
  obtain ⟨e1, e2, e3, e4⟩ := e
  exact Prod.ext (Prod.ext (mapK_inj e1) (mapK_inj e2)) (Prod.ext (sw_inj e3) (sw_inj e4))
theorem stateK_data (A B : List Sc) (u : W) : (NestedKey.tup (stateK A B u)).data = .tuple [.tuple ((stateD A B u).1.1.map ds), .tuple ((stateD A B u).1.2.map ds), ds (stateD A B u).2.1, ds (stateD A B u).2.2] := by
  unfold stateK
  show PyData.tuple [.tuple (NestedKey.datas _), .tuple (NestedKey.datas _), _, _] = _
  rw [datas_W, datas_W]; rfl
theorem stateK_depth (A B : List Sc) (u : W) : (NestedKey.tup (stateK A B u)).depth ≤ 8 := by
  unfold stateK
  simp [NestedKey.depth, NestedKey.depthAll, depths_W]
theorem prodN_pos : ∀ A : List Sc, 1 ≤ prodN A
  | [] => Nat.le_refl _
  | s :: A => Nat.mul_pos (by omega) (prodN_pos A)
theorem min_if (m n : Nat) : (if ((n : Nat) : Int) < ((m : Nat) : Int) then ((n : Nat) : Int) else ((m : Nat) : Int)) = ((min m n : Nat) : Int) := by
  split <;> omega
end TP
namespace TD
open PySem PySem.Spec PyProof.Rows L2 TP
theorem s_drop {K : PySem.W.Frag} {M : List Addr} {H : Hp} {σ : L2.St} {ρ : List DV} {D : Ends} {te : TE} {x : DV} (s : Sta K M H σ ρ) (h : EvX (cz K M H) te ρ x) (k : ∀ H', Same H H' → Sta K M H' σ ρ → D.nx σ H') : tDrop te D σ H :=
  q_drop (tz := tNext) s h k
end TD
set_option Elab.async false
set_option linter.all false
set_option maxRecDepth 100000
set_option maxHeartbeats 400000
/-! A hidden dict, read as if it were shown; taken from. -/
namespace TD
open PySem PySem.Spec PyProof.Rows L2 TP
/-- hidden less -/
abbrev Cz.show (c : Cz) (M : List Addr) : Cz := { c with M := M }
theorem kd_anyH {H H' : Hp} : ∀ {tb : Tb} {kv : List (Key × V)}, KD H kv (encT tb) → KD H' kv (encT tb)
  | [], _, h => by cases h; exact .nil
  | q :: tb, _, h => by
    cases h with
    | cons a b =>
      refine .cons ⟨a.1, ?_⟩ (kd_anyH b)
      have e := dq_str a.2
      show Dq H' _ (ds q.2)
      rw [e]; exact Dq.str _
section
variable {c : Cz} {t : Tw} {ρ : List DV} {te : TE} {M : List Addr} {p : Addr} {i : Nat} {tb : Tb} {P : DV → Prop} {d : D}
theorem nod_of {H : Hp} {kv : List (Key × V)} (h : H p = some (.dK kv)) : NoData H p := by
  refine ⟨fun xs z => ?_, fun o xs z => ?_, fun o xs z => ?_⟩ <;> rw [h] at z <;> cases z
theorem at_show {H1 : Hp} {σ : L2.St} (hM : c.M = p :: M) (np : p ∉ M) (m : MK c.M c.H p (encT tb)) (hp : p ∉ c.T) (hi : ρ[i]? = some (.v (.ref p))) (a : At c H1 σ ρ) : At (c.show M) H1 σ (ρ.set i (.k (encT tb))) ∧ ∃ kv, H1 p = some (.dK kv) := by
  obtain ⟨_, kv, e, b⟩ := m
  have e1 : H1 p = some (.dK kv) := a.gr _ _ hp e
  refine ⟨⟨a.gr, fun b hb => a.lv b (by rw [hM]; exact List.mem_cons_of_mem _ hb), ?_⟩, kv, e1⟩
  have env := a.env
  obtain ⟨v, ev, ov⟩ := env.get hi (by intro z; cases z)
  obtain rfl : v = V.ref p := ov
  have env2 : Env c.K (hid M H1) σ ρ := by
    have : Same (hid c.M H1) (hid M H1) := by rw [hM]; exact hid_cons
    exact env.mono this
  exact env2.put ev ⟨p, kv, rfl, by rw [hid_out np]; exact e1, kd_anyH b⟩
theorem dq_hide {H : Hp} {kv : List (Key × V)} {v : V} (np : p ∉ M) (e : H p = some (.dK kv)) (h : Dq (hid M H) v d) : Dq (hid (p :: M) H) v d := by
  refine dq_mono (fun b o eb => ?_) _ _ (dq_drop (nod_of (p := p) (H := hid M H) (kv := kv) (by rw [hid_out np]; exact e)) _ _ h)
  obtain ⟨h1, h2⟩ := dropH_some eb
  obtain ⟨h3, h4⟩ := hid_some h2
  rw [hid_out (by simp [h1, h3])]; exact h4
/-- an expression that reads it -/
theorem ev_show (hM : c.M = p :: M) (np : p ∉ M) (m : MK c.M c.H p (encT tb)) (hp : p ∉ c.T) (hi : ρ[i]? = some (.v (.ref p))) (h : EvX (c.show M) te (ρ.set i (.k (encT tb))) (.d d)) : EvX c te ρ (.d d) := fun H1 σ a Q q => by
  obtain ⟨a2, kv, e⟩ := at_show hM np m hp hi a
  refine h H1 σ a2 Q fun v H2 s2 o2 => q v H2 s2 ?_
  show Dq (hid c.M H2) v d
  rw [hM]
  exact dq_hide np (s2 _ _ e) o2
theorem et_show (hM : c.M = p :: M) (np : p ∉ M) (m : MK c.M c.H p (encT tb)) (hp : p ∉ c.T) (hpt : p ∉ t.L) (hi : ρ[i]? = some (.v (.ref p))) (hP : ∀ x, P x → ∃ d, x = .d d) (h : EvT (c.show M) t te (ρ.set i (.k (encT tb))) P) : EvT c t te ρ P := fun n H1 σ a w Q q => by
  obtain ⟨a2, kv, e⟩ := at_show hM np m hp hi a
  refine h ⟨n.1, fun b hb => ?_⟩ H1 σ a2 w Q fun v x H2 px g2 w2 o2 => q v x H2 px g2 w2 ?_
  · have := n.2 b hb
    rw [hM] at this
    rcases List.mem_cons.mp this with z | z
    · exact absurd (z ▸ hb) hpt
    · exact z
  · obtain ⟨d, rfl⟩ := hP x px
    show Dq (hid c.M H2) v d
    rw [hM]
    exact dq_hide np (g2 _ _ hpt e) o2
end
section
variable {K : PySem.W.Frag} {M : List Addr} {t : Tw} {H : Hp} {σ : L2.St} {ρ : List DV} {D : Ends} {te ty td : TE} {tz : TS} {i : Nat} {tl : TA}
/-- p = dict(scheme), hidden -/
theorem qt_newDS {s : Sc} (S : StaT K M t H σ ρ) (h : EvA (czT K M t H) tl ρ [.d (encS s)])
    (k : ∀ p σ' H', H p = none → p ∉ M → Same H H' → StaT K (p :: M) t H' σ' (ρ.set i (.v (.ref p))) → MK (p :: M) H' p (encT (writeT s)) → tz D σ' H') : tSeq (tAsg (tCB (rDictP K) tl) (gName i)) tz D σ H :=
  h H σ S.at _ fun vs H2 s2 o => by
    obtain ⟨v, rfl, o'⟩ := args1 o
    obtain ⟨a, ob, ws, rfl, h1, h0, h2⟩ := dq_tuple o'
    have ep : s.map encP = (s.map fun p => ((Sum.inr (sw p.1) : Key), ds p.2)).map pairD := by rw [List.map_map]; rfl
    rw [ep] at h2
    obtain ⟨kv, p1, p2⟩ := pairs_q (K := K) h2
    refine ⟨a, ws, kv, rfl, .inr ⟨ob, (hid_some h1).2, h0⟩, p1, fun p hp => ?_⟩
    have S2 := S.of s2 (S.sta.same s2)
    have nm : p ∉ M := S2.sta.lv.new hp
    have hH : H p = none := by
      cases e : H p with
      | none => rfl
      | some o => rw [s2 _ _ e] at hp; cases hp
    have sn := same_new hp (HO.dK (mergeK [] kv))
    refine k p _ _ hH nm (s2.trans sn) ((S2.push hp).set (x := .v (.ref p)) rfl) ⟨List.mem_cons_self, _, upd_same, ?_⟩
    have e := kmerge_enc [] s
    have e2 : (encT ([] : Tb)) = [] := rfl
    rw [e2] at e
    have m := kd_merge p2 (.nil : KD (hid M H2) [] [])
    rw [e] at m
    exact m.mono (hid_new hp sn)
def drop1 (tb : Tb) (w : W) : Tb := tb.filter fun q => decide (q.1 ≠ w)
theorem kd_drop {H : Hp} (w : W) : ∀ {tb : Tb} {kv : List (Key × V)}, KD H kv (encT tb) → KD H (dropK kv (.inr (sw w))) (encT (drop1 tb w))
  | [], _, h => by cases h; exact .nil
  | q :: tb, _, h => by
    cases h with
    | cons a b =>
      rename_i x kv
      have ih := kd_drop w b
      have hk : x.1 = .inr (sw q.1) := a.1
      unfold dropK drop1 at ih ⊢
      rw [List.filter_cons, List.filter_cons]
      by_cases e : q.1 = w
      · have e1 : x.1 = .inr (sw w) := by rw [hk, e]
        simp only [e, e1, ne_eq, not_true_eq_false, decide_false, Bool.false_eq_true, if_false]
        exact ih
      · have e1 : x.1 ≠ .inr (sw w) := fun z => e (by rw [hk] at z; exact sw_inj (Sum.inr.inj z))
        simp only [e, e1, ne_eq, not_false_eq_true, decide_true, if_true]
        exact .cons a ih
/-- p.pop(e), e drawn -/
theorem st_dpop {Pk : W → Prop} {p : Addr} {tb : Tb} (s : StaT K M t H σ ρ) (m : MK M H p (encT tb)) (hpt : p ∉ t.L) (ho : EvX (czT K M t H) td ρ (.v (.ref p))) (he : EvT (czT K M t H) t ty ρ fun x => ∃ w, x = .d (ds w) ∧ Pk w) (hg : ∀ w, Pk w → (get tb w).isSome = true)
    (k : ∀ kw H', Pk kw → Gr (p :: t.L) H H' → StaT K M t H' σ ρ → MK M H' p (encT (drop1 tb kw)) → D.nx σ H') : tDrop (tDPop1 td ty) D σ H :=
  ho H σ s.at _ fun v H3 s3 o3 => by
    obtain rfl : v = V.ref p := o3
    obtain ⟨mp, kv, a, b⟩ := m
    refine ⟨p, rfl, .inl ⟨kv, .inl (s3 _ _ a)⟩, he s.n H3 σ (s.at.same s3) (s.tw.same s3) _ fun u y H4 p4 g4 w4 o4 => ?_⟩
    obtain ⟨kw, rfl, pk⟩ := p4
    have ekw := dq_str o4
    subst ekw
    have g24 : Gr t.L H H4 := (Same.gr s3).trans g4
    have e4 : H4 p = some (.dK kv) := g24 _ _ hpt a
    have b4 : KD (hid M H4) kv (encT tb) := kd_anyH b
    have hs := hg kw pk
    obtain ⟨v1, d1, e1, e2, e3⟩ : ∃ v d, valV kv (.inr (sw kw)) = some v ∧ kget (encT tb) (.inr (sw kw)) = some d ∧ Dq (hid M H4) v d := by
      rcases kd_get b4 (.inr (sw kw)) with h | ⟨_, h⟩
      · exact h
      · rw [kget_enc] at h
        cases q : get tb kw with
        | none => rw [q] at hs; cases hs
        | some z => rw [q] at h; cases h
    refine ⟨kv, .inr (sw kw), v1, e4, rfl, e1, ?_⟩
    have st4 := s.gro g24 w4
    have e : hid M (upd H4 p (.dK (dropK kv (.inr (sw kw))))) = hid M H4 := hid_upd_in mp
    refine k kw _ pk (fun b o n eb => ?_) ⟨st4.sta.write mp, s.tm, ?_⟩ ⟨mp, _, upd_same, ?_⟩
    · rw [upd_ne (by simp at n; exact n.1)]; exact g24 _ _ (fun z => n (List.mem_cons_of_mem _ z)) eb
    · refine t.gr _ _ [p] w4 (fun b o nb eb => by rw [upd_ne (by simpa using nb)]; exact eb) fun b hb => ?_
      rw [List.mem_singleton.mp hb]
      exact ⟨hpt, fun o eo => .inr ⟨kv, by rw [e4] at eo; exact (Option.some.inj eo).symm⟩⟩
    · rw [e]; exact kd_drop kw b4
/-- a, b = e, f drawn -/
theorem qt_par {i j : Nat} {ta : TA} {Pa Pb : DV → Prop} (s : StaT K M t H σ ρ) (h : EvAT (czT K M t H) t ta ρ fun l => ∃ x xs, l = x :: xs ∧ Pa x ∧ ∃ y ys, xs = y :: ys ∧ Pb y ∧ ys = [])
    (k : ∀ x y σ' H', Pa x → Pb y → Gr t.L H H' → StaT K M t H' σ' ((ρ.set i x).set j y) → tz D σ' H') : tSeq (tPar i j ta) tz D σ H :=
  h s.n H σ s.at s.tw _ fun vs l H2 p g w o2 => by
    obtain ⟨x, _, rfl, px, y, _, rfl, py, rfl⟩ := p
    obtain ⟨v, v2, rfl, o3, o4⟩ := args2 o2
    exact ⟨v, v2, rfl, k x y _ _ px py g (((s.gro g w).set o3).set o4)⟩
end
end TD
namespace TD
open PySem PySem.Spec PyProof.Rows L2 TP
section
variable {K : PySem.W.Frag} {M : List Addr} {t : Tw} {H : Hp} {σ : L2.St} {ρ : List DV} {D : Ends} {tt : TT} {tu tw tz : TS}
/-- an if whose suites go on alike -/
theorem qt_ifM {R : Bool → Prop} (I : L2.St → Hp → Prop) (s : StaT K M t H σ ρ) (h : EvBT (czT K M t H) t tt ρ R)
    (h1 : R true → ∀ (nx : L2.St → Hp → Prop) H', Gr t.L H H' → StaT K M t H' σ ρ → (∀ σ' H', I σ' H' → nx σ' H') → tu { D with nx := nx } σ H')
    (h2 : R false → ∀ (nx : L2.St → Hp → Prop) H', Gr t.L H H' → StaT K M t H' σ ρ → (∀ σ' H', I σ' H' → nx σ' H') → tw { D with nx := nx } σ H')
    (k : ∀ σ' H', I σ' H' → tz D σ' H') : tSeq (tIfS tt tu tw) tz D σ H :=
  st_if (D := { D with nx := tz D }) s h (fun r H' g a => h1 r _ H' g a k) fun r H' g a => h2 r _ H' g a k
end
end TD
namespace TP
open PySem TD L2
theorem Tbl.drop1 {l g : W} {tb : Tb} {w : W} (h : Tbl l g tb) : Tbl l g (TD.drop1 tb w) where
  nodup := by unfold TD.drop1; exact h.nodup.sublist ((List.filter_sublist).map _)
  keys := fun p hp => h.keys p ((List.mem_filter.mp hp).1)
  vals := fun p hp => h.vals p ((List.mem_filter.mp hp).1)
theorem drop1_has {tb : Tb} {w k : W} (h : k ∈ tb.map (·.1)) (hn : k ≠ w) : k ∈ (TD.drop1 tb w).map (·.1) := by
  obtain ⟨q, hq, rfl⟩ := List.mem_map.mp h
  exact List.mem_map.mpr ⟨q, List.mem_filter.mpr ⟨hq, by simpa using hn⟩, rfl⟩
theorem drop1_len (tb : Tb) (w : W) : (TD.drop1 tb w).length ≤ tb.length := List.length_filter_le _ _
theorem ofT_len (tb : Tb) : (ofT tb).length = tb.length := by
  unfold ofT; rw [List.length_map, (sortW_perm _).length_eq, List.length_map]
theorem Made.tbl {l g : W} {s : Sc} (h : Made l g s) (hg : ∀ c ∈ g, c ∈ lowers) : Tbl l lowers (writeT s) :=
  (writeT_tbl (l := l) (g := lowers) (s := s) fun q hq => ⟨⟨(h.ok.src1 q hq).1, (h.ok.src1 q hq).2, h.src q hq⟩, (h.ok.tgt1 q hq).1, (h.ok.tgt1 q hq).2, fun c hc => hg c (h.tgt q hq c hc)⟩).1
end TP
set_option Elab.async false
set_option linter.all false
set_option maxRecDepth 100000
set_option maxHeartbeats 400000
/-! More rules for a law's statements. -/
namespace TD
open PySem PySem.Spec PyProof.Rows L2 TP
section
variable {K : PySem.W.Frag} {M : List Addr} {t : Tw} {H Hb : Hp} {σ : L2.St} {ρ : List DV} {D : Ends} {te to : TE} {tt tt2 : TT} {tu tz : TS} {i j : Nat} {ta : TA} {P : DV → Prop} {c : Cz}
/-- p.extend(e), e drawn -/
theorem qt_ext {K' : PySem.W.Frag} {p : Addr} {xs : List PyData} {Py : List PyData → Prop} (s : StaT K M t H σ ρ) (m : ML M H p xs) (hpt : p ∉ t.L) (ho : EvX (czT K M t H) to ρ (.v (.ref p))) (h : EvT (czT K M t H) t te ρ fun x => ∃ ys, x = .d (.list ys) ∧ Py ys) (hz : ∀ ys, Py ys → xs.length + ys.length ≤ 1000000)
    (k : ∀ ys H', Py ys → Gr (p :: t.L) H H' → StaT K M t H' σ ρ → ML M H' p (xs ++ ys) → tz D σ H') : tSeq (tDrop (tBM K' "list" rExtend to (tCons te tNil))) tz D σ H :=
  ho H σ s.at _ fun v H2 s2 o2 => by
    obtain rfl : v = V.ref p := o2
    obtain ⟨_, vs, a, b⟩ := m.same s2
    refine ⟨.inl ⟨rfl, vs, .inl (.inl a)⟩, h s.n H2 σ (s.at.same s2) (s.tw.same s2) _ fun w x H3 px g3 w3 o3 => ?_⟩
    obtain ⟨ys, rfl, py⟩ := px
    have g : Gr t.L H H3 := (Same.gr s2).trans g3
    have st := s.gro g w3
    have m3 := m.gr g s.tm hpt
    obtain ⟨mp, vs', a', b'⟩ := m3
    obtain ⟨q, ws, rfl, e1, e2⟩ := dq_list o3
    refine ⟨p, q, vs', ws, rfl, rfl, a', (hid_some e1).2, ?_, ?_⟩
    · rw [dqAll_len b', dqAll_len e2]; exact Nat.le_trans (hz ys py) (by decide)
    · have e : hid M (upd H3 p (.lst (vs' ++ ws))) = hid M H3 := hid_upd_in mp
      refine k ys _ py (fun b o n eb => ?_) ⟨st.sta.write mp, s.tm, ?_⟩ ⟨mp, _, upd_same, by rw [e]; exact dqAll_app b' e2⟩
      · rw [upd_ne (by simp at n; exact n.1)]; exact g _ _ (fun z => n (List.mem_cons_of_mem _ z)) eb
      · refine t.gr _ _ [p] w3 (fun b o nb eb => by rw [upd_ne (by simpa using nb)]; exact eb) fun b hb => ?_
        rw [List.mem_singleton.mp hb]
        exact ⟨hpt, fun o eo => .inl ⟨vs', by rw [a'] at eo; exact (Option.some.inj eo).symm⟩⟩
theorem ebt_or2 (h1 : EvBT c t tt ρ (· = false)) (h2 : EvBT c t tt2 ρ (· = false)) : EvBT c t (tOr tt tt2) ρ (· = false) := fun n H1 σ a w Q q => h1 n H1 σ a w _ fun b H2 e g w2 => by
  subst e
  refine iteF (h2 n H2 σ (a.gro n g w2) w2 _ fun b H3 e g3 w3 => q b H3 e (g.trans g3) w3)
theorem ebt_testB {b : Bool} (h : EvT c t te ρ (· = .d (.bool b))) : EvBT c t (tTest te) ρ (· = b) := fun n H1 σ a w Q q => h n H1 σ a w _ fun v x H2 p g w2 o => by
  subst p
  exact ⟨b, dq_bool o, q b H2 rfl g w2⟩
theorem l_skipT (s : StaL K M t Hb H σ ρ) (h : EvBT (czT K M t H) t tt ρ (· = false)) (k : ∀ H', StaL K M t Hb H' σ ρ → tz D σ H') : tSeq (tIfS tt tu tNext) tz D σ H :=
  st_if (D := { D with nx := tz D }) s.toStaT h (fun r => by cases r) fun _ H' g a => k H' (s.ofG g a)
theorem l_par {Pa Pb : DV → Prop} (s : StaL K M t Hb H σ ρ) (h : EvAT (czT K M t H) t ta ρ fun l => ∃ x xs, l = x :: xs ∧ Pa x ∧ ∃ y ys, xs = y :: ys ∧ Pb y ∧ ys = [])
    (k : ∀ x y σ' H', Pa x → Pb y → StaL K M t Hb H' σ' ((ρ.set i x).set j y) → tz D σ' H') : tSeq (tPar i j ta) tz D σ H :=
  qt_par s.toStaT h fun x y σ' H' px py g a => k x y σ' H' px py (s.ofG g a)
/-- targets, drawn -/
theorem l_drawG {js : List Nat} {g : TG} {up : PyData → List DV} (s : StaL K M t Hb H σ ρ) (h : EvT (czT K M t H) t te ρ P) (hP : ∀ x, P x → ∃ d, x = .d d ∧ GOk K js g (.d d) ρ (up d)) (k : ∀ d σ' H', P (.d d) → StaL K M t Hb H' σ' (up d) → tz D σ' H') : tSeq (tAsg te g) tz D σ H :=
  h s.toStaT.n H σ s.toStaT.at s.tw _ fun v x H2 px gr w o => by
    obtain ⟨d, rfl, hg⟩ := hP x px
    have a2 := s.ofG gr (s.toStaT.gro gr w)
    exact hg M H2 σ v _ a2.sta.env o fun σ' e' _ => k d σ' H2 px (a2.ofS (Same.refl _) ⟨a2.sta.lv, e'⟩)
/-- a list of drawn words -/
theorem paired_words {α : Type} {R : W → Prop} {ys : List α} {zs : List PyData} (p : Paired (fun _ d => ∃ w : W, d = ds w ∧ R w) ys zs) : ∃ ws : List W, zs = ws.map ds ∧ ws.length = ys.length ∧ ∀ w ∈ ws, R w := by
  induction p with
  | nil => exact ⟨[], rfl, rfl, by simp⟩
  | cons h _ ih =>
    obtain ⟨w, rfl, hw⟩ := h
    obtain ⟨ws, rfl, e, m⟩ := ih
    exact ⟨w :: ws, rfl, by rw [List.length_cons, List.length_cons, e], fun z hz => by
      rcases List.mem_cons.mp hz with rfl | hz
      · exact hw
      · exact m z hz⟩
end
end TD
namespace TP
open PySem TD L2
abbrev encCC (p : List Sc × List Sc) : D := .tuple [encC p.1, encC p.2]
theorem encC_inj {A B : List Sc} (h : encC A = encC B) : A = B := by
  have h1 : A.map encS = B.map encS := by injection h
  have key : ∀ {A B : List Sc}, A.map encS = B.map encS → A = B := by
    intro A
    induction A with
    | nil => intro B h; cases B with
      | nil => rfl
      | cons b B => cases h
    | cons a A ih => intro B h; cases B with
      | nil => cases h
      | cons b B =>
        rw [List.map_cons, List.map_cons] at h
        injection h with h1 h2
        rw [encS_inj h1, ih h2]
  exact key h1
theorem chain_of {A : List Sc} (h : isChain (encC A) = true) : Chain A := by
  obtain ⟨B, e, hB⟩ := isChain_iff.mp h
  rw [encC_inj e]; exact hB
/-- schemes over the letters l, few entries -/
def GoodC (l : W) (A : List Sc) : Prop := A.length ≤ 2 ∧ ∀ s ∈ A, Scheme s ∧ lettersW s = l ∧ s.length ≤ 6
theorem GoodC.small {l : W} {A : List Sc} (h : GoodC l A) : small (encC A) :=
  ⟨by rw [List.length_map]; have := h.1; omega, smallAll_of fun x hx => by
    obtain ⟨s, hs, rfl⟩ := List.mem_map.mp hx
    exact (h.2 s hs).1.small⟩
theorem prodN_le {A : List Sc} : (∀ s ∈ A, s.length ≤ 6) → prodN A ≤ 7 ^ A.length := by
  induction A with
  | nil => intro _; exact Nat.le_refl _
  | cons s A ih =>
    intro h
    have h1 := ih fun z hz => h z (List.mem_cons_of_mem _ hz)
    have h2 := h s List.mem_cons_self
    show (1 + s.length) * prodN A ≤ 7 ^ (A.length + 1)
    rw [Nat.pow_succ, Nat.mul_comm (7 ^ A.length) 7]
    exact Nat.mul_le_mul (by omega) h1
theorem GoodC.prod {l : W} {A B : List Sc} (hA : GoodC l A) (hB : GoodC l B) : prodN A * prodN B ≤ 2500 := by
  have p49 : ∀ {A : List Sc}, GoodC l A → prodN A ≤ 49 := fun h => Nat.le_trans (prodN_le fun s hs => (h.2 s hs).2.2) (Nat.le_trans (Nat.pow_le_pow_right (by decide) h.1) (by decide))
  exact Nat.le_trans (Nat.mul_le_mul (p49 hA) (p49 hB)) (by decide)
theorem differ_comm (A B : List Sc) : differ A B = differ B A := by
  funext w; unfold differ; congr 1; exact decide_eq_decide.mpr ⟨fun h => h.symm, fun h => h.symm⟩
theorem differ_self (A : List Sc) (w : W) : differ A A w = false := by unfold differ; simp
theorem finds_self (A : List Sc) (l : W) : Finds (differ A A) l none := fun u _ => differ_self A u
theorem head_mem {A : List Sc} {s : Sc} (h : A.head? = some s) : s ∈ A := by
  cases A with
  | nil => cases h
  | cons a A => cases h; exact List.mem_cons_self
end TP
namespace TD
open PySem PySem.Spec PyProof.Rows L2 TP
theorem q_lockS {K : PySem.W.Frag} {M : List Addr} {H : Hp} {σ : L2.St} {ρ : List DV} {D : Ends} {te : TE} {tz : TS} {i : Nat} {x : DV} (s : Sta K M H σ ρ) (h : EvX (cz K M H) (tLockE te) ρ x) (k : ∀ σ' H', Same H H' → Sta K M H' σ' (ρ.set i x) → tz D σ' H') : tSeq (tLock (tAsg te (gName i))) tz D σ H :=
  h H σ s.at (fun v H2 => tz D (σ.set i (some v)) H2) fun v H2 s2 o2 => k _ H2 s2 ((s.same s2).set o2)
end TD
set_option Elab.async false
set_option linter.all false
set_option maxRecDepth 100000
set_option maxHeartbeats 400000
/-! A scheme without one of its entries. -/
namespace TP
open PySem TD L2
def rest (s : Sc) (p : W × W) : Sc := s.filter fun q => decide (q ≠ p)
theorem rest_len (s : Sc) (p : W × W) : (rest s p).length ≤ s.length := List.length_filter_le _ _
theorem letters_rest {s : Sc} {p : W × W} (h : 1 < p.1.length) : letters (rest s p) = letters s := by
  unfold letters rest
  rw [List.filter_filter]
  congr 1
  apply List.filter_congr
  intro q _
  by_cases e : q = p
  · subst e; simp; omega
  · simp [e]
theorem lettersW_rest {s : Sc} {p : W × W} (h : 1 < p.1.length) : lettersW (rest s p) = lettersW s := by unfold lettersW; rw [letters_rest h]
theorem asc_iff {S : List W} : ascending S = true ↔ S.Pairwise (· < ·) := ⟨asc_lt, fun h => asc_of (h.imp fun h => List.le_of_lt h) (h.imp fun {a b} l e => by rw [e] at l; exact List.lt_irrefl _ l)⟩
theorem rest_ok {s : Sc} {p : W × W} (h : Scheme s) (hp : p ∈ s) (hl : 1 < p.1.length) : Scheme (rest s p) := by
  have sub : ∀ q ∈ rest s p, q ∈ s := fun q hq => (List.mem_filter.mp hq).1
  have one : ∀ c, [c] ∈ s.map (·.1) → [c] ∈ (rest s p).map (·.1) := fun c hc => by
    obtain ⟨q, hq, e⟩ := List.mem_map.mp hc
    exact List.mem_map.mpr ⟨q, List.mem_filter.mpr ⟨hq, by
      rw [decide_eq_true_eq]; intro z; rw [← z, e] at hl; simp at hl⟩, e⟩
  have lets : ∀ q ∈ s, ∀ c ∈ q.1, [c] ∈ s.map (·.1) := fun q hq c hc => by
    have hl := h.lets
    unfold lettersIn at hl
    exact of_decide_eq_true (List.all_eq_true.mp (List.all_eq_true.mp hl q.1 (List.mem_map.mpr ⟨q, hq, rfl⟩)) c hc)
  refine ⟨?_, Nat.le_trans (rest_len s p) h.ten, fun q hq => h.src1 q (sub q hq), fun q hq => h.tgt1 q (sub q hq), fun q hq => h.src2 q (sub q hq), fun q hq => h.tgt2 q (sub q hq), ?_, ?_⟩
  · obtain ⟨c, hc⟩ : ∃ c, c ∈ p.1 := List.exists_mem_of_ne_nil _ (fun e => by rw [e] at hl; simp at hl)
    have := List.length_pos_of_mem (one c (lets p hp c hc))
    rwa [List.length_map] at this
  · rw [asc_iff, List.pairwise_map]
    have := asc_lt h.asc
    rw [List.pairwise_map] at this
    exact this.sublist List.filter_sublist
  · unfold lettersIn
    refine List.all_eq_true.mpr fun w hw => List.all_eq_true.mpr fun c hc => decide_eq_true ?_
    obtain ⟨q, hq, rfl⟩ := List.mem_map.mp hw
    exact one c (lets q (sub q hq) c hc)
theorem eqv_P (p q : W × W) : PyData.eqv (encP p) (encP q) = decide (p = q) := by
  have h : PyData.eqv (encP p) (encP q) = (PyData.eqv (ds p.1) (ds q.1) && PyData.eqv (ds p.2) (ds q.2)) := by
    simp [PyData.eqv, PyData.eqvAll, encP]
  rw [h, eqv_ds, eqv_ds]
  obtain ⟨a, b⟩ := p
  obtain ⟨c, d⟩ := q
  by_cases h1 : a = c <;> by_cases h2 : b = d <;> simp [h1, h2]
theorem rest_enc (s : Sc) (p : W × W) : ((s.filter fun q => !decide (q = p)).map encP) = (rest s p).map encP := by
  unfold rest
  congr 1
  apply List.filter_congr
  intro q _
  rw [decide_not]
open Classical in
/-- the entry p of s may be left out -/
noncomputable def isRed (s : Sc) (p : W × W) : Bool := if ∀ w, Over (lettersW s) w → differ [s] [rest s p] w = false then true else false
theorem isRed_iff {s : Sc} {p : W × W} {r : Option W} (f : Finds (differ [s] [rest s p]) (lettersW s) r) : isRed s p = decide (r = none) := by
  unfold isRed
  cases r with
  | none => rw [if_pos (show ∀ w, Over (lettersW s) w → differ [s] [rest s p] w = false from f)]; rfl
  | some w =>
    have f : Least (differ [s] [rest s p]) (lettersW s) w := f
    rw [if_neg fun h => by
      have := h w f.over
      rw [f.hit] at this; cases this]
    simp
noncomputable def redL (s : Sc) : List (W × W) := s.filter fun p => decide (1 < p.1.length) && isRed s p
theorem single_chain {s : Sc} (h : Scheme s) : Chain [s] := ⟨by simpa using h, by simp, by intro _ _ e; cases e⟩
theorem single_tot {s : Sc} (h : Scheme s) {l : W} (hl : lettersW s = l) : Tot l [s] := (single_chain h).tot fun s' e c hc => by
  have : s = s' := by simpa using e
  subst this
  exact lettersW_mem.mp (by rw [hl]; exact hc)
theorem prod_two {s s' : Sc} (h : s.length ≤ 10) (h' : s'.length ≤ 10) : prodN [s] * prodN [s'] ≤ 2500 := by
  show ((1 + s.length) * 1) * ((1 + s'.length) * 1) ≤ 2500
  rw [Nat.mul_one, Nat.mul_one]
  exact Nat.le_trans (Nat.mul_le_mul (show 1 + s.length ≤ 11 by omega) (show 1 + s'.length ≤ 11 by omega)) (by decide)
end TP
namespace TP
open PySem TD L2
theorem depth_P (p : W × W) : (encP p).depth ≤ 60 := by
  simp [PyData.depth, PyData.depthAll, encP]
end TP
set_option Elab.async false
set_option linter.all false
set_option maxRecDepth 100000
set_option maxHeartbeats 400000
/-! Tuples assigned: a new dict, a new list among the values. -/
namespace TD
open PySem PySem.Spec PyProof.Rows L2 TP
section
variable {K : PySem.W.Frag} {M : List Addr} {t : Tw} {H : Hp} {σ : L2.St} {ρ : List DV} {D : Ends} {te tb tc : TE} {tz : TS} {i j l : Nat} {tl : TA} {c : Cz} {tt tu : TT} {P : DV → Prop}
/-- a, b = dict(scheme), e : a is a new dict, hidden -/
theorem qt_tupDS {K' : PySem.W.Frag} {s : Sc} {y : DV} (S : StaT K M t H σ ρ) (h : EvA (czT K M t H) tl ρ [.d (encS s)]) (h2 : ∀ M H, EvX (cz K M H) tb ρ y)
    (k : ∀ p σ' H', H p = none → p ∉ M → Same H H' → StaT K (p :: M) t H' σ' ((ρ.set i (.v (.ref p))).set j y) → MK (p :: M) H' p (encT (writeT s)) → tz D σ' H') :
    tSeq (tAsg (tTupF (tCons (tCB (rDictP K) tl) (tCons tb tNil))) (gTup K' 2 (gCons (gName i) (gCons (gName j) gNil)))) tz D σ H :=
  h H σ S.at _ fun vs H2 s2 o => by
    obtain ⟨v, rfl, o'⟩ := args1 o
    obtain ⟨a, ob, ws, rfl, h1, h0, hd⟩ := dq_tuple o'
    have ep : s.map encP = (s.map fun p => ((Sum.inr (sw p.1) : Key), ds p.2)).map pairD := by rw [List.map_map]; rfl
    rw [ep] at hd
    obtain ⟨kv, p1, p2⟩ := pairs_q (K := K) hd
    refine ⟨a, ws, kv, rfl, .inr ⟨ob, (hid_some h1).2, h0⟩, p1, fun p hp => ?_⟩
    have S2 := S.of s2 (S.sta.same s2)
    have nm : p ∉ M := S2.sta.lv.new hp
    have hH : H p = none := by
      cases e : H p with
      | none => rfl
      | some o => rw [s2 _ _ e] at hp; cases hp
    have sn := same_new hp (HO.dK (mergeK [] kv))
    have S3 := S2.push (o := .dK (mergeK [] kv)) hp
    have m3 : MK (p :: M) (upd H2 p (.dK (mergeK [] kv))) p (encT (writeT s)) := ⟨List.mem_cons_self, _, upd_same, by
      have e := kmerge_enc [] s
      have e2 : (encT ([] : Tb)) = [] := rfl
      rw [e2] at e
      have m := kd_merge p2 (.nil : KD (hid M H2) [] [])
      rw [e] at m
      exact m.mono (hid_new hp sn)⟩
    refine h2 (p :: M) _ _ σ S3.sta.at _ fun w H4 s4 o4 => ?_
    refine ⟨by show 2 ≤ _; decide, fun q o hq ho => ?_⟩
    have sq := same_new hq (.frz o (.tup [.ref p, w]))
    have S4 := (S3.of s4 (S3.sta.same s4)).of sq ((S3.sta.same s4).same sq)
    refine ⟨q, _, rfl, .inl (.inr ⟨o, upd_same⟩), rfl, _, _, rfl, _, _, rfl, rfl, ?_⟩
    exact k p _ _ hH nm (s2.trans (sn.trans (s4.trans sq))) ((S4.set (x := .v (.ref p)) rfl).set (o4.mono (Same.hid sq))) ((m3.same s4).same sq)
/-- a, b, c = e, [], f : b is a new list, hidden; e is drawn -/
theorem qt_tup3L {K' : PySem.W.Frag} {z : DV} (S : StaT K M t H σ ρ) (h : EvT (czT K M t H) t te ρ P) (h2 : ∀ M H, EvX (cz K M H) tc ρ z)
    (k : ∀ x p σ' H', P x → H p = none → p ∉ M → Gr t.L H H' → Same (hid M H) (hid (p :: M) H') → StaT K (p :: M) t H' σ' (((ρ.set i x).set j (.v (.ref p))).set l z) → ML (p :: M) H' p [] → tz D σ' H') :
    tSeq (tAsg (tTupF (tCons te (tCons (tLst tNil) (tCons tc tNil)))) (gTup K' 3 (gCons (gName i) (gCons (gName j) (gCons (gName l) gNil))))) tz D σ H :=
  h S.n H σ S.at S.tw _ fun v x H2 px g2 w2 o2 => by
    refine ⟨Nat.zero_le _, fun p hp => ?_⟩
    have S2 := S.gro g2 w2
    have nm : p ∉ M := S2.sta.lv.new hp
    have hH : H p = none := by
      cases e : H p with
      | none => rfl
      | some o =>
        by_cases q : p ∈ t.L
        · exact absurd hp (t.live _ w2 p q)
        · rw [g2 p o q e] at hp; cases hp
    have sn := same_new hp (HO.lst [])
    have S3 := S2.push (o := .lst []) hp
    have m3 : ML (p :: M) (upd H2 p (.lst [])) p [] := ⟨List.mem_cons_self, [], upd_same, .nil⟩
    refine h2 (p :: M) _ _ σ S3.sta.at _ fun w H4 s4 o4 => ?_
    refine ⟨by show 3 ≤ _; decide, fun q o hq ho => ?_⟩
    have sq := same_new hq (.frz o (.tup [v, .ref p, w]))
    have S4 := (S3.of s4 (S3.sta.same s4)).of sq ((S3.sta.same s4).same sq)
    have sh := hid_new (M := M) hp sn
    refine ⟨q, _, rfl, .inl (.inr ⟨o, upd_same⟩), rfl, _, _, rfl, _, _, rfl, _, _, rfl, rfl, ?_⟩
    exact k x p _ _ px hH nm (g2.trans (Same.gr (sn.trans (s4.trans sq)))) ((Gr.hidT S.n g2).trans (sh.trans (Same.hid (s4.trans sq)))) (((S4.set (((o2.mono sh).mono (Same.hid s4)).mono (Same.hid sq))).set (x := .v (.ref p)) rfl).set (o4.mono (Same.hid sq))) ((m3.same s4).same sq)
/-- the same where the names are taken at once -/
theorem qt_par3L {z : DV} (S : StaT K M t H σ ρ) (h : EvT (czT K M t H) t te ρ P) (h2 : ∀ M H, EvX (cz K M H) tc ρ z)
    (k : ∀ x p σ' H', P x → H p = none → p ∉ M → Gr t.L H H' → Same (hid M H) (hid (p :: M) H') → StaT K (p :: M) t H' σ' (((ρ.set i x).set j (.v (.ref p))).set l z) → ML (p :: M) H' p [] → tz D σ' H') :
    tSeq (tPar3 i j l (tCons te (tCons (tLst tNil) (tCons tc tNil)))) tz D σ H :=
  h S.n H σ S.at S.tw _ fun v x H2 px g2 w2 o2 => by
    refine ⟨Nat.zero_le _, fun p hp => ?_⟩
    have S2 := S.gro g2 w2
    have nm : p ∉ M := S2.sta.lv.new hp
    have hH : H p = none := by
      cases e : H p with
      | none => rfl
      | some o =>
        by_cases q : p ∈ t.L
        · exact absurd hp (t.live _ w2 p q)
        · rw [g2 p o q e] at hp; cases hp
    have sn := same_new hp (HO.lst [])
    have S3 := S2.push (o := .lst []) hp
    have m3 : ML (p :: M) (upd H2 p (.lst [])) p [] := ⟨List.mem_cons_self, [], upd_same, .nil⟩
    refine h2 (p :: M) _ _ σ S3.sta.at _ fun w H4 s4 o4 => ?_
    have S4 := S3.of s4 (S3.sta.same s4)
    have sh := hid_new (M := M) hp sn
    refine ⟨_, _, _, rfl, ?_⟩
    exact k x p _ _ px hH nm (g2.trans (Same.gr (sn.trans s4))) ((Gr.hidT S.n g2).trans (sh.trans (Same.hid s4))) (((S4.set ((o2.mono sh).mono (Same.hid s4))).set (x := .v (.ref p)) rfl).set o4) (m3.same s4)
theorem ebt_and {a b : Bool} (h1 : EvB c tt ρ a) (h2 : a = true → EvBT c t tu ρ (· = b)) (ha : a = false → b = false) : EvBT c t (tAnd tt tu) ρ (· = b) := fun n H1 σ e w Q q => h1 H1 σ e _ fun H2 s2 => by
  cases a with
  | true => exact iteT (h2 rfl n H2 σ (e.same s2) (w.same s2) _ fun b' H3 eb g w3 => q b' H3 eb ((Same.gr s2).trans g) w3)
  | false => exact iteF (q false H2 (ha rfl).symm (Same.gr s2) (w.same s2))
end
end TD
namespace TP
open PySem TD L2
theorem trans_fin {s : Sc} (h : Scheme s) (w : W) : trans s w = (finishO [s] w).getD [] := by
  show (mapped (writeT s) w).getD [] = ((mapped s w).bind (finishO [])).getD []
  rw [h.writeT]
  cases mapped s w <;> rfl
theorem trans_red {s : Sc} {q : W × W} (h : Scheme s) (hr : Scheme (rest s q)) {w : W} (e : differ [s] [rest s q] w = false) : trans s w = trans (rest s q) w := by
  rw [trans_fin h, trans_fin hr]
  unfold differ at e
  have : finishO [s] w = finishO [rest s q] w := by simpa using e
  rw [this]
theorem mostK9 {l : W} (hl : l ∈ anyL) : ∃ n : Nat, kget (kmerge [] (([(1, 8), (2, 6), (3, 4)] : List (Int × Int)).map fun p => ((Sum.inl p.1 : Key), PyData.int p.2))) (.inl (l.length : Int)) = some (.int (n : Int)) ∧ l.length ≤ 10 ∧ n ≤ 100 ∧ (allW l n).length ≤ 10000 := by
  simp only [anyL, List.mem_cons, List.not_mem_nil, or_false] at hl
  rcases hl with rfl | rfl | rfl
  · exact ⟨8, rfl, by decide, by decide, by decide +kernel⟩
  · exact ⟨6, rfl, by decide, by decide, by decide +kernel⟩
  · exact ⟨4, rfl, by decide, by decide, by decide +kernel⟩
end TP
namespace TP
open PySem TD L2
theorem trans_pos {s : Sc} (h : Scheme s) {w : W} (hw : ∀ c ∈ w, [c] ∈ s.map (·.1)) (h0 : w ≠ []) : 1 ≤ (trans s w).length := by
  obtain ⟨ps, e⟩ : ∃ ps, split (writeT s) w = some ps := Option.isSome_iff_exists.mp (split_total _ (Nat.le_refl _) fun c hc => by rw [h.writeT]; exact get_isSome.mpr (hw c hc))
  have e2 : trans s w = (ps.map (val (writeT s))).flatten := by unfold TP.trans mapped; rw [e]; rfl
  have hl := split_len _ (Nat.le_refl _) e
  rw [e2]
  cases ps with
  | nil => exact absurd hl.2.symm h0
  | cons a ps =>
    have hg := get_mem (get_val (split_mem _ (Nat.le_refl _) e a List.mem_cons_self).1)
    rw [h.writeT] at hg
    have := (h.tgt1 _ hg).1
    rw [List.map_cons, List.flatten_cons, List.length_append, h.writeT]
    exact Nat.le_trans this (Nat.le_add_right _ _)
theorem trans_low {s : Sc} (h : Scheme s) {w : W} (hw : ∀ c ∈ w, [c] ∈ s.map (·.1)) : ∀ c ∈ trans s w, c ∈ lowers := by
  obtain ⟨y, e, _⟩ := h.mappedL hw
  have e2 : trans s w = y := by unfold TP.trans; rw [e]; rfl
  rw [e2]
  refine mapped_chars (p := fun c => c ∈ lowers) (fun q hq c hc => ?_) e
  rw [h.writeT] at hq
  exact of_decide_eq_true (List.all_eq_true.mp (h.tgt2 q hq) c hc)
theorem trans_le {s : Sc} (h : Scheme s) {w : W} (hw : ∀ c ∈ w, [c] ∈ s.map (·.1)) : (trans s w).length ≤ w.length * 3 := by
  obtain ⟨y, e, hy⟩ := h.mappedL hw
  have e2 : trans s w = y := by unfold TP.trans; rw [e]; rfl
  rw [e2]; exact hy
end TP
set_option Elab.async false
set_option linter.all false
set_option maxRecDepth 100000
set_option maxHeartbeats 400000
/-! zip of a tuple and a list. -/
namespace PySem
open Sem (wp)
section
variable {prog : Program} {w : World} {A : Around} {s : Shared}
theorem draws_endT (hh : A.handled = none) {it t : Addr} (hne : t ≠ it) {items : Array Value} {i : Nat} (h1 : s.heap.IsTupleIter it t i) (h2 : s.heap.IsTuple t items) :
    ∃ (n : Nat) (P : Nat → Value → Prop) (St : Nat → Heap → Prop), Draws prog w A it [it, t] n P St ∧ St i s.heap ∧ i ≤ n ∧ (items.size ≤ i → i = n) := by
  by_cases h : items.size ≤ i
  · refine ⟨i, fun _ _ => False, fun j h => j = i ∧ h.IsTupleIter it t j ∧ h.IsTuple t items, ⟨fun _ _ st => let ⟨o, ho, _⟩ := st.2.1; ⟨o, ho⟩, fun _ _ _ st hk => ⟨st.1, st.2.1.at fun o e => hk it (by simp) o e, st.2.2.at fun o e => hk t (by simp) o e⟩, fun j s Q E hj st hQ => ?_, fun s Q E st hE => ?_⟩, ⟨rfl, h1, h2⟩, Nat.le_refl _, fun _ => rfl⟩
    · have := st.1; omega
    · exact wpAny_nextOf_tuple_end hh st.2.1 st.2.2 (by simp; omega) hE
  · exact ⟨_, _, _, Draws.tuple hh it t hne items, ⟨h1, h2⟩, by omega, fun z => absurd z h⟩
theorem draws_endL (hh : A.handled = none) {it t : Addr} (hne : t ≠ it) {items : Array Value} {i : Nat} (h1 : s.heap.IsListIter it t i) (h2 : s.heap.IsList t items) :
    ∃ (n : Nat) (P : Nat → Value → Prop) (St : Nat → Heap → Prop), Draws prog w A it [it, t] n P St ∧ St i s.heap ∧ i ≤ n ∧ (items.size ≤ i → i = n) := by
  by_cases h : items.size ≤ i
  · refine ⟨i, fun _ _ => False, fun j h => j = i ∧ h.IsListIter it t j ∧ h.IsList t items, ⟨fun _ _ st => let ⟨o, ho, _⟩ := st.2.1; ⟨o, ho⟩, fun _ _ _ st hk => ⟨st.1, st.2.1.at fun o e => hk it (by simp) o e, st.2.2.at fun o e => hk t (by simp) o e⟩, fun j s Q E hj st hQ => ?_, fun s Q E st hE => ?_⟩, ⟨rfl, h1, h2⟩, Nat.le_refl _, fun _ => rfl⟩
    · have := st.1; omega
    · exact wpAny_nextOf_list_end hh st.2.1 st.2.2 (by simp; omega) hE
  · exact ⟨_, _, _, Draws.list hh it t hne items, ⟨h1, h2⟩, by omega, fun z => absurd z h⟩
end
end PySem
namespace L2
open PySem PySem.Spec PyProof.Rows
/-- the tuple at a and the list at b, the items in new pairs -/
def ItzM (K : PySem.W.Frag) (a b : Addr) : It :=
  ⟨fun i H => ∃ (xs ys : List V) (x y : V), SqT K H a xs ∧ SqL K H b ys ∧ xs[i]? = some x ∧ ys[i]? = some y,
    fun i H v H' => ∃ T x y, v = .ref T ∧ H T = none ∧ H' = upd H T (.tup [x, y]) ∧ (∀ xs, SqT K H a xs → xs[i]? = some x) ∧ ∀ ys, SqL K H b ys → ys[i]? = some y,
    fun i H => ∃ xs ys : List V, SqT K H a xs ∧ SqL K H b ys ∧ (xs.length ≤ i ∨ ys.length ≤ i)⟩
theorem turn_zipM {P : Program} {w : World} {K : PySem.W.Frag} {elts : List Expr} {kk : Nat} {tpos : Pos} {a b z TI TO i1 i2 : Addr} (D : ZipSep2 z TI TO i1 i2 [i1, a] [i2, b]) :
    Turn P w K (.Tuple elts kk tpos) (ItzM K a b) [z, TI, TO, i1, i2] z (fun i h => IsZip h z TI TO .none ∧ IsTupOf2 h TI (.ref i1) (.ref i2) ∧ (∃ x y, IsTupOf2 h TO x y) ∧ h.IsTupleIter i1 a i ∧ h.IsListIter i2 b i ∧ a ≠ i1 ∧ b ≠ i2) where
  mem := by simp
  obj := fun i h st c hc => by
    obtain ⟨hz, hTI, ⟨x, y, hTO⟩, ⟨o1, e1, _, d1⟩, ⟨o2, e2, _, d2⟩, _⟩ := st
    have e' : c = z ∨ c = TI ∨ c = TO ∨ c = i1 ∨ c = i2 := by simpa using hc
    rcases e' with q | q | q | q | q
    · rw [q]; exact ⟨_, hz, fun v q => nomatch q⟩
    · rw [q]; exact ⟨_, hTI, fun v q => nomatch q⟩
    · rw [q]; exact ⟨_, hTO, fun v q => nomatch q⟩
    · rw [q]; exact ⟨o1, e1, fun v q => by rw [d1] at q; cases q⟩
    · rw [q]; exact ⟨o2, e2, fun v q => by rw [d2] at q; cases q⟩
  keep := fun i h h' st k => by
    obtain ⟨hz, hTI, ⟨x, y, hTO⟩, h1, h2, n1, n2⟩ := st
    exact ⟨k z (by simp) _ hz, k TI (by simp) _ hTI, ⟨x, y, k TO (by simp) _ hTO⟩, h1.at fun o q => k i1 (by simp) o q, h2.at fun o q => k i2 (by simp) o q, n1, n2⟩
  item := by
    intro X hP hw hK hc i pins s σ H E I hf st hg
    subst hP hw hK
    obtain ⟨hz, hTI, ⟨x0, y0, hTO⟩, h1, h2, n1, n2⟩ := st
    obtain ⟨xs, ys, x, y, hqx, hqy, hx, hy⟩ := hg
    obtain ⟨its, rv, p, _⟩ := I.tuple hqx
    obtain ⟨its2, rv2, p2, _⟩ := I.list hqy
    obtain ⟨u, hu, ru⟩ := rv.get hx
    obtain ⟨u2, hu2, ru2⟩ := rv2.get hy
    have hzl : z < s.heap.objs.size := Heap.lt_size hz
    have hp : s.heap.IsTuple a its.toArray := p
    have l1 : i < its.toArray.size := by
      obtain ⟨q, _⟩ := List.getElem?_eq_some_iff.mp hu
      simpa using q
    have l2 : i < its2.toArray.size := by
      obtain ⟨q, _⟩ := List.getElem?_eq_some_iff.mp hu2
      simpa using q
    have hh : X.A.in1.handled = none := I.ok.hd hc
    refine wpAny_pyNext_zipD2_item D (Draws.tuple (A := X.A.in1) hh i1 a n1 its.toArray) (Draws.list (A := X.A.in1) hh i2 b n2 its2.toArray) hz hTI hTO ⟨h1, hp⟩ ⟨h2, p2.isList⟩ l1 l2 fun x1 x2 h' tk e1 e2 z' TO' st1 st2 hT hsz hk => ?_
    have ex1 : x1 = u := by
      have h1 : its[i]? = some x1 := by simpa using e1
      rw [hu] at h1; exact (Option.some.inj h1).symm
    have ex2 : x2 = u2 := by
      have h1 : its2[i]? = some x2 := by simpa using e2
      rw [hu2] at h1; exact (Option.some.inj h1).symm
    subst ex1 ex2
    refine ⟨_, rfl, wpAny_letOwnedTupleGo_zip (s := { s with heap := h', toks := tk }) z' fun h'' z'' sb => ?_⟩
    have hT2 : h''.get? s.heap.objs.size = some { cls := .type "tuple", data := .seq #[x1, x2] } := (sb.2 _ (Nat.ne_of_gt hzl)).trans hT
    have new : ObjOk X.prog X.w (upd H s.heap.objs.size (.tup [x, y])) h'' s.heap.objs.size (.tup [x, y]) :=
      ⟨by show 2 ≤ sizeLine; decide, [x1, x2], .cons ru (.cons ru2 .nil), ⟨_, hT2, rfl, _, rfl⟩⟩
    have I1 : Inv X pins σ (upd H s.heap.objs.size (.tup [x, y])) { s with heap := h'', toks := tk } :=
      I.turnedNew (ch := [z, TI, TO, i1, i2]) (fun c o hb q => (sb.2 c (fun q' => hb (by simp [q']))).trans (hk c o (fun q' => hb (by simp [q'])) (fun q' => hb (by simp [q'])) (fun q' => hb (by simp [q'])) (fun q' => hb (by simp [q'])) q)) hf (Nat.le_refl _) new
    refine ⟨.ref s.heap.objs.size, _, I1, rfl, ⟨_, x, y, rfl, I.hok.fresh (Nat.le_refl _), rfl, fun l hl => by rw [I.tuple_inj hl hqx]; exact hx, fun l hl => by rw [I.list_inj hl hqy]; exact hy⟩, ⟨z'', ?_, ⟨x1, x2, ?_⟩, ?_, ?_, n1, n2⟩, fun c hcm => ?_⟩
    · exact (sb.2 _ D.TIz).trans (hk _ _ D.TIz D.TITO D.TIi1 D.TIi2 hTI)
    · exact (sb.2 _ D.TOz).trans TO'
    · exact st1.1.at fun o q => (sb.2 _ (Ne.symm D.zi1)).trans q
    · exact st2.1.at fun o q => (sb.2 _ (Ne.symm D.zi2)).trans q
    · have hlt : c < s.heap.objs.size := by
        have e' : c = z ∨ c = TI ∨ c = TO ∨ c = i1 ∨ c = i2 := by simpa using hcm
        rcases e' with q | q | q | q | q
        · rw [q]; exact hzl
        · rw [q]; exact Heap.lt_size hTI
        · rw [q]; exact Heap.lt_size hTO
        · rw [q]; obtain ⟨_, e1, _⟩ := h1; exact Heap.lt_size e1
        · rw [q]; obtain ⟨_, e2, _⟩ := h2; exact Heap.lt_size e2
      rw [upd_ne (Nat.ne_of_lt hlt)]
      exact (hf c hcm).1
  done := by
    intro X hP hw hK hc i pins s σ H E I hf st hg
    subst hP hw hK
    obtain ⟨hz, hTI, ⟨x0, y0, hTO⟩, h1, h2, n1, n2⟩ := st
    obtain ⟨xs, ys, hqx, hqy, hend⟩ := hg
    obtain ⟨its, rv, p, _⟩ := I.tuple hqx
    obtain ⟨its2, rv2, p2, _⟩ := I.list hqy
    have l1 := rv.length
    have l2 := rv2.length
    have hp : s.heap.IsTuple a its.toArray := p
    have hh : X.A.in1.handled = none := I.ok.hd hc
    obtain ⟨m1, P1, St1, D1, s1, le1, en1⟩ := draws_endT (prog := X.prog) (w := X.w) (A := X.A.in1) hh n1 h1 hp
    obtain ⟨m2, P2, St2, D2, s2, le2, en2⟩ := draws_endL (prog := X.prog) (w := X.w) (A := X.A.in1) hh n2 h2 p2.isList
    refine wpAny_pyNext_zipD2_end D D1 D2 hz hTI hTO s1 s2 le1 le2 ?_ fun h' tk hk => ⟨rfl, I.turnedL (t' := tk) (ch := [z, TI, TO, i1, i2]) (fun c o hb q =>
      hk c o (fun q' => hb (by simp [q'])) (fun q' => hb (by simp [q'])) (fun q' => hb (by simp [q'])) (fun q' => hb (by simp [q'])) q) hf⟩
    rcases hend with q | q
    · exact .inl (en1 (by simp; omega))
    · exact .inr (en2 (by simp; omega))
  self := fun A i s Q E st h => wpAny_pyIter_zip st.1 h
end L2
namespace L2
open PySem PySem.Spec PyProof.Rows
theorem sepM (n a b : Nat) (ha : a < n) (hb : b < n) : ZipSep2 (n + 4) (n + 2) (n + 3) n (n + 1) [n, a] [n + 1, b] := by
  have nm : ∀ {x y z : Nat}, x ≠ y → x ≠ z → x ∉ [y, z] := fun h1 h2 h => by
    rcases List.mem_cons.mp h with h | h
    · exact h1 h
    · exact h2 (List.mem_singleton.mp h)
  have e : ∀ {x y : Nat}, x < y ∨ y < x → x ≠ y := fun h e => by omega
  exact {
    TIz := e (.inl (show n + 2 < n + 4 by omega))
    TOz := e (.inl (show n + 3 < n + 4 by omega))
    TITO := e (.inl (show n + 2 < n + 3 by omega))
    TIi1 := e (.inr (show n < n + 2 by omega))
    mem1 := List.mem_cons_self
    zf1 := nm (e (.inr (show n < n + 4 by omega))) (e (.inr (show a < n + 4 by omega)))
    Tf1 := nm (e (.inr (show n < n + 3 by omega))) (e (.inr (show a < n + 3 by omega)))
    TIi2 := e (.inr (show n + 1 < n + 2 by omega))
    mem2 := List.mem_cons_self
    zf2 := nm (e (.inr (show n + 1 < n + 4 by omega))) (e (.inr (show b < n + 4 by omega)))
    Tf2 := nm (e (.inr (show n + 1 < n + 3 by omega))) (e (.inr (show b < n + 3 by omega)))
    sep1_2 := nm (e (.inl (show n < n + 1 by omega))) (e (.inr (show b < n by exact hb)))
    sep2_1 := nm (e (.inr (show n < n + 1 by omega))) (e (.inr (show a < n + 1 by omega))) }
theorem neM (n b : Nat) (hb : b < n) : b ≠ n + 1 := by omega
def iZipM (K : PySem.W.Frag) (ta : TA) : TI := fun σ H R => ta σ H fun vs H1 => ∃ a b xs ys, vs = [.ref a, .ref b] ∧ SqT K H1 a xs ∧ SqL K H1 b ys ∧ R (ItzM K a b) H1
theorem pi_zipM {X : Cx} {e e2 : Expr} {ta : TA} {p pos tpos : Pos} {elts : List Expr} {kk : Nat} (hg : Gl X "zip") (hm : X.mg "zip" = none) (ha : PA X [e, e2] ta)
    (hs : starEach [e, e2] X.env = (false, eval e X.env) :: starEach [e2] X.env := by rfl) (hpl : (backTo pos (starEach [e2] X.env)).any (·.1) = false := by rfl) :
    PI X (.Tuple elts kk tpos) (.Call (.Name "zip" p) [e, e2] [] pos) (iZipM X.K ta) := by
  refine ⟨fun pins s σ H R I h => ?_⟩
  refine Call_ (ld_blt I hg hm PyProof.Rows.boot_zip (PyProof.Rows.callWith_type1 (thn (ha.run pos pins s σ H _ I h) fun us s1 ⟨vs, H1, I1, r1, q1⟩ => ?_) hs hpl))
  obtain ⟨a, b, xs, ys, ex, hqx, hqy, q⟩ := q1
  subst ex
  cases r1 with
  | cons r rr =>
    cases rr with
    | cons r' rr =>
      cases rr
      cases r
      cases r'
      obtain ⟨its, rv, p1, _⟩ := I1.tuple hqx
      obtain ⟨its2, rv2, p2, _⟩ := I1.list hqy
      have hp : s1.heap.IsTuple a its.toArray := p1
      have la : a < s1.heap.objs.size := by obtain ⟨_, q, _⟩ := hp; exact Heap.lt_size q
      have lb : b < s1.heap.objs.size := p2.lt
      refine zip_begins2 (begins_tuple a its.toArray) (begins_list b its2.toArray) hp p2.isList fun h' hz hTI hTO h1 h2 hsz hk => wpAny_pyIter_zip hz ?_
      have I2 : Inv X pins σ H1 { s1 with heap := h' } := I1.kept (t' := s1.toks) hk
      have sep : ZipSep2 (s1.heap.objs.size + 4) (s1.heap.objs.size + 2) (s1.heap.objs.size + 3) s1.heap.objs.size (s1.heap.objs.size + 1) [s1.heap.objs.size, a] [s1.heap.objs.size + 1, b] := sepM _ _ _ la lb
      refine ⟨s1.heap.objs.size + 4, [s1.heap.objs.size + 4, s1.heap.objs.size + 2, s1.heap.objs.size + 3, s1.heap.objs.size, s1.heap.objs.size + 1], _, _, H1, rfl, I2, turn_zipM sep, ⟨hz, hTI, ⟨_, _, hTO⟩, ⟨_, h1, rfl, rfl⟩, ⟨_, h2, rfl, rfl⟩, Nat.ne_of_lt la, neM _ _ lb⟩, fun c hcm => ?_, q⟩
      have e' : c = s1.heap.objs.size + 4 ∨ c = s1.heap.objs.size + 2 ∨ c = s1.heap.objs.size + 3 ∨ c = s1.heap.objs.size ∨ c = s1.heap.objs.size + 1 := by simpa using hcm
      have hle : s1.heap.objs.size ≤ c := by
        rcases e' with z | z | z | z | z
        · rw [z]; exact Nat.le_add_right _ _
        · rw [z]; exact Nat.le_add_right _ _
        · rw [z]; exact Nat.le_add_right _ _
        · rw [z]; exact Nat.le_refl _
        · rw [z]; exact Nat.le_add_right _ _
      exact I1.fpOk hle (I1.hok.fresh hle)
end L2
namespace TD
open PySem PySem.Spec PyProof.Rows L2 TP
section
variable {X : Cx} {K : PySem.W.Frag} {e e2 : Expr} {ta : TA} {pos : Pos} {c : Cz} {ρ : List DV}
theorem ki_zipM {p tpos : Pos} {elts : List Expr} {kk : Nat} (hK : X.K = K) (hg : Gl X "zip") (hm : X.mg "zip" = none) (ha : PA X [e, e2] ta)
    (hs : starEach [e, e2] X.env = (false, eval e X.env) :: starEach [e2] X.env := by rfl) (hpl : (backTo pos (starEach [e2] X.env)).any (·.1) = false := by rfl) :
    PI X (.Tuple elts kk tpos) (.Call (.Name "zip" p) [e, e2] [] pos) (iZipM K ta) := hK ▸ pi_zipM hg hm ha hs hpl
theorem itOk_zipM {M : List Addr} {H2 : Hp} {a b : Addr} {o : Obj} {vs ws : List V} {xs ys : List D} (h1 : hid M H2 a = some (.frz o (.tup vs))) (h2 : DqAll (hid M H2) vs xs) (h3 : hid M H2 b = some (.lst ws)) (h4 : DqAll (hid M H2) ws ys) :
    ItOk M H2 (ItzM K a b) ((xs.zip ys).map fun p => .pr p.1 p.2) where
  go := fun M' i H' s l hi => by
    rw [List.length_map, List.length_zip, ← dqAll_len h2, ← dqAll_len h4] at hi
    have a1 : i < vs.length := by omega
    have a2 : i < ws.length := by omega
    exact ⟨vs, ws, vs[i], ws[i], sqT_of (s _ _ h1), .inl (.inl (hid_some (s _ _ h3)).2), List.getElem?_eq_getElem a1, List.getElem?_eq_getElem a2⟩
  stop := fun M' i H' s l hi => by
    rw [List.length_map, List.length_zip, ← dqAll_len h2, ← dqAll_len h4] at hi
    exact ⟨vs, ws, sqT_of (s _ _ h1), .inl (.inl (hid_some (s _ _ h3)).2), by omega⟩
  yld := fun M' i H' v H'' s l _ y => by
    obtain ⟨T, x, y, rfl, hT, rfl, y1, y2⟩ := y
    have e1 := y1 vs (sqT_of (s _ _ h1))
    have e2 := y2 ws (.inl (.inl (hid_some (s _ _ h3)).2))
    obtain ⟨d, f1, f2⟩ := dqAll_get h2 e1
    obtain ⟨e, g1, g2⟩ := dqAll_get h4 e2
    have sn := Same.hid (M := M') (same_new hT (.tup [x, y]))
    exact ⟨same_new hT _, .pr d e, by rw [List.getElem?_map, zip_get f1 g1]; rfl, T, x, y, rfl, by rw [hid_upd_out (l.new hT)]; exact upd_same, dq_mono sn _ _ (dq_mono s _ _ f2), dq_mono sn _ _ (dq_mono s _ _ g2)⟩
theorem ei_zipM {xs ys : List D} (h : EvA c ta ρ [.d (.tuple xs), .d (.list ys)]) : EvI c (iZipM K ta) ρ ((xs.zip ys).map fun p => .pr p.1 p.2) := fun H1 σ a R r => h H1 σ a _ fun vs H2 s2 o2 => by
  obtain ⟨v, w, rfl, o, p⟩ := args2 o2
  obtain ⟨a1, ob, vs, rfl, h1, _, h2⟩ := dq_tuple o
  obtain ⟨b1, ws, rfl, h3, h4⟩ := dq_list p
  exact ⟨a1, b1, vs, ws, rfl, sqT_of h1, sqL_of h3, r _ H2 s2 (itOk_zipM h1 h2 h3 h4)⟩
end
end TD
set_option Elab.async false
set_option linter.all false
set_option maxRecDepth 100000
set_option maxHeartbeats 400000
/-! sorted of pairs of a number and a word. -/
namespace TD
open PySem PySem.Spec PyProof.Rows L2 TP
def sortP (ps : List (Nat × W)) : List (Nat × W) := ps.mergeSort fun a b => !ltL b a
section
variable {c : Cz}
theorem rc_sortP {ps : List (Nat × W)} : RCX c rSortU [.d (.list (ps.map encL))] (.d (.list ((sortP ps).map encL))) := fun H1 g lv vs ha Q q => by
  obtain ⟨v, rfl, o⟩ := args1 ha
  obtain ⟨a, us, rfl, h1, h2⟩ := dq_list o
  have hm : ∀ d ∈ ps.map encL, ∃ p : Nat × W, d = encL p := fun d hd => by obtain ⟨w, _, rfl⟩ := List.mem_map.mp hd; exact ⟨w, rfl⟩
  refine .inr ⟨hid c.M H1, a, us, ps.map encL, rfl, hid_le, (hid_some h1).2, h2, fun d hd d' hd' => ?_, .inl fun d hd => ?_, fun d hd => ?_, fun vs' p hv hn => q _ _ (same_new hn _) (new_lst lv hn ?_)⟩
  · obtain ⟨w, rfl⟩ := hm d hd
    obtain ⟨w', rfl⟩ := hm d' hd'
    rfl
  · obtain ⟨w, rfl⟩ := hm d hd
    exact ⟨_, _, rfl⟩
  · obtain ⟨w, rfl⟩ := hm d hd
    show 1 ≤ 60
    decide
  · have e : (ps.map encL).mergeSort (PySem.W.dataLe false id) = (sortP ps).map encL := by
      unfold sortP
      refine (List.map_mergeSort fun a _ b _ => ?_).symm
      rw [PySem.W.dataLe_eq]
      show (!ltL b a) = !PySem.W.dataLt (encL b) (encL a)
      rw [dataLt_L]
    rw [← e]
    exact hv
end
end TD
set_option Elab.async false
set_option linter.all false
set_option maxRecDepth 100000
set_option maxHeartbeats 400000
/-! Three chains: the two smallest of their smallest differences are alike. -/
namespace TP
open PySem TD L2
def keyO : Option W → Nat × W
  | none => (999, [])
  | some w => (w.length, w)
theorem leP_bool {a b : Nat × W} : (!ltL b a) = true ↔ leP a b := by
  rw [Bool.not_eq_true']
  exact Iff.rfl
theorem sortP_sorted (ps : List (Nat × W)) : (sortP ps).Pairwise leP := by
  unfold sortP
  have h := List.pairwise_mergeSort (le := fun a b : Nat × W => !ltL b a) (fun a b c h1 h2 => leP_bool.mpr (leP_trans (leP_bool.mp h1) (leP_bool.mp h2))) (fun a b => by
    rw [Bool.or_eq_true, leP_bool, leP_bool]; exact leP_total a b) ps
  exact h.imp fun h => leP_bool.mp h
theorem sortP_perm (ps : List (Nat × W)) : (sortP ps).Perm ps := List.mergeSort_perm _ _
theorem two_least {a b c : Nat × W} (h1 : leP b a ∨ leP c a) (h2 : leP a b ∨ leP c b) (h3 : leP a c ∨ leP b c) : ∃ x z, sortP [a, b, c] = [x, x, z] := by
  have hs := sortP_sorted [a, b, c]
  have hp := sortP_perm [a, b, c]
  have hl := hp.length_eq
  match e : sortP [a, b, c], hl with
  | [x, y, z], _ =>
    rw [e] at hs hp
    have hxy : leP x y := (List.pairwise_cons.mp hs).1 y List.mem_cons_self
    have hyz : leP y z := (List.pairwise_cons.mp (List.pairwise_cons.mp hs).2).1 z List.mem_cons_self
    have fin : (leP y x ∨ leP z x) → x = y := fun h => by
      rcases h with h | h
      · exact leP_anti hxy h
      · exact leP_anti hxy (leP_trans hyz h)
    have sub : ∀ {u v}, (∀ d, d ∈ [y, z] → d = u ∨ d = v) → (∀ d, (d = u ∨ d = v) → d ∈ [y, z]) → (leP u x ∨ leP v x) → x = y := fun {u v} _ hm h => by
      refine fin ?_
      have hu := hm u (.inl rfl)
      have hv := hm v (.inr rfl)
      simp only [List.mem_cons, List.not_mem_nil, or_false] at hu hv
      rcases h with h | h
      · rcases hu with rfl | rfl
        · exact .inl h
        · exact .inr h
      · rcases hv with rfl | rfl
        · exact .inl h
        · exact .inr h
    have hx : x ∈ [a, b, c] := hp.mem_iff.mp List.mem_cons_self
    have exy : x = y := by
      simp only [List.mem_cons, List.not_mem_nil, or_false] at hx
      rcases hx with rfl | rfl | rfl
      · have p2 := hp.cons_inv
        exact sub (u := b) (v := c) (fun d hd => by have := p2.mem_iff.mp hd; simpa using this) (fun d hd => p2.mem_iff.mpr (by simpa using hd)) h1
      · have p2 : [y, z].Perm [a, c] := (hp.trans (List.Perm.swap _ _ _)).cons_inv
        exact sub (u := a) (v := c) (fun d hd => by have := p2.mem_iff.mp hd; simpa using this) (fun d hd => p2.mem_iff.mpr (by simpa using hd)) h2
      · have p2 : [y, z].Perm [a, b] := (hp.trans ((List.Perm.cons a (List.Perm.swap _ _ _)).trans (List.Perm.swap _ _ _))).cons_inv
        exact sub (u := a) (v := b) (fun d hd => by have := p2.mem_iff.mp hd; simpa using this) (fun d hd => p2.mem_iff.mpr (by simpa using hd)) h3
    subst exy
    exact ⟨x, z, rfl⟩
section
variable {l : W} {A B C : List Sc} {r1 r2 r3 : Option W}
theorem key_le {f : W → Bool} {r : Option W} {w : W} (h : Finds f l r) (ho : Over l w) (hf : f w = true) : leP (keyO r) (keyO (some w)) := by
  cases r with
  | none => have := (show ∀ u, Over l u → f u = false from h) w ho; rw [hf] at this; cases this
  | some u =>
    have := (show Least f l u from h).least w ho hf
    rw [leP_iff]
    exact this
theorem key_tri (h1 : Finds (differ A B) l r1) (h2 : Finds (differ B C) l r2) (h3 : Finds (differ A C) l r3) (b1 : ∀ w, r1 = some w → w.length < 999) : leP (keyO r1) (keyO r3) ∨ leP (keyO r2) (keyO r3) := by
  cases r3 with
  | none =>
    refine .inl ?_
    cases r1 with
    | none => rw [leP_iff]; exact .inr ⟨rfl, List.le_refl _⟩
    | some w => rw [leP_iff]; exact .inl (b1 w rfl)
  | some w =>
    have h : Least (differ A C) l w := h3
    have hd : differ A B w = true ∨ differ B C w = true := by
      have := h.hit
      unfold differ at this ⊢
      simp only [Bool.not_eq_true', decide_eq_false_iff_not] at this ⊢
      by_cases e : finishO A w = finishO B w
      · exact .inr fun e2 => this (e.trans e2)
      · exact .inl e
    rcases hd with hd | hd
    · exact .inl (key_le h1 h.over hd)
    · exact .inr (key_le h2 h.over hd)
theorem key_two (h1 : Finds (differ A B) l r1) (h2 : Finds (differ B C) l r2) (h3 : Finds (differ A C) l r3) (b1 : ∀ w, r1 = some w → w.length < 999) (b2 : ∀ w, r2 = some w → w.length < 999) (b3 : ∀ w, r3 = some w → w.length < 999) : ∃ x z, sortP [keyO r1, keyO r2, keyO r3] = [x, x, z] := by
  have h1' : Finds (differ B A) l r1 := by rw [differ_comm]; exact h1
  have h2' : Finds (differ C B) l r2 := by rw [differ_comm]; exact h2
  have h3' : Finds (differ C A) l r3 := by rw [differ_comm]; exact h3
  exact two_least ((key_tri h3 h2' h1 b3).symm) (key_tri h1' h3 h2 b1) (key_tri h1 h2 h3 b1)
end
end TP
namespace TP
open PySem TD L2
/-- schemes of this law -/
structure Nr (l : W) (s : Sc) : Prop where
  ok : Scheme s
  ls : lettersW s = l
  tgt : ∀ p ∈ s, ∀ c ∈ p.2, c ∈ ([97, 98] : W)
  few : s.length ≤ 4
theorem scheme_src {s s' : Sc} (h : Scheme s) (e : s'.map (·.1) = s.map (·.1)) (h1 : ∀ p ∈ s', 1 ≤ p.2.length ∧ p.2.length ≤ 3) (h2 : ∀ p ∈ s', p.2.all low = true) : Scheme s' := by
  have hl : s'.length = s.length := by have := congrArg List.length e; simpa using this
  have hsrc : ∀ p ∈ s', ∃ q ∈ s, p.1 = q.1 := fun p hp => by
    have : p.1 ∈ s.map (·.1) := by rw [← e]; exact List.mem_map.mpr ⟨p, hp, rfl⟩
    obtain ⟨q, hq, e⟩ := List.mem_map.mp this
    exact ⟨q, hq, e.symm⟩
  refine ⟨by rw [hl]; exact h.one, by rw [hl]; exact h.ten, fun p hp => ?_, h1, fun p hp => ?_, h2, by rw [e]; exact h.asc, by rw [e]; exact h.lets⟩
  · obtain ⟨q, hq, e⟩ := hsrc p hp
    rw [e]; exact h.src1 q hq
  · obtain ⟨q, hq, e⟩ := hsrc p hp
    rw [e]; exact h.src2 q hq
theorem split_at {s : Sc} {i : Nat} {q : W × W} (hi : s[i]? = some q) : s = s.take i ++ q :: s.drop (i + 1) := by
  obtain ⟨h, e⟩ := List.getElem?_eq_some_iff.mp hi
  have : s.drop i = q :: s.drop (i + 1) := by rw [← e]; exact List.drop_eq_getElem_cons h
  rw [← this, List.take_append_drop]
theorem rest_at {s : Sc} (h : Scheme s) {i : Nat} {q : W × W} (hi : s[i]? = some q) : rest s q = s.take i ++ s.drop (i + 1) := by
  have hn : s.Nodup := List.Pairwise.of_map (fun x : W × W => x.1) (fun a b h e => h (by rw [e])) (asc_nodup h.asc)
  have e := split_at hi
  unfold rest
  conv => lhs; rw [e]
  rw [e] at hn
  rw [List.nodup_append] at hn
  obtain ⟨n1, n2, n3⟩ := hn
  have n4 := (List.nodup_cons.mp n2).1
  have fl : ∀ {m : Sc}, q ∉ m → m.filter (fun x => decide (x ≠ q)) = m := fun {m} hm => List.filter_eq_self.mpr fun x hx => decide_eq_true fun z => hm (z ▸ hx)
  rw [List.filter_append, List.filter_cons, fl (fun z => n3 q z q List.mem_cons_self rfl), if_neg (by simp), fl n4]
theorem Nr.drop {l : W} {s : Sc} (h : Nr l s) {i : Nat} {q : W × W} (hi : s[i]? = some q) (hl : 1 < q.1.length) : Nr l (s.take i ++ s.drop (i + 1)) := by
  rw [← rest_at h.ok hi]
  exact ⟨rest_ok h.ok (List.mem_of_getElem? hi) hl, by rw [lettersW_rest hl]; exact h.ls, fun p hp => h.tgt p (List.mem_filter.mp hp).1, Nat.le_trans (rest_len s q) h.few⟩
theorem Nr.put {l : W} {s : Sc} (h : Nr l s) {i : Nat} {q : W × W} (hi : s[i]? = some q) {v : W} (h1 : 1 ≤ v.length) (h3 : v.length ≤ 3) (hv : ∀ c ∈ v, c ∈ ([97, 98] : W)) : Nr l (s.take i ++ [(q.1, v)] ++ s.drop (i + 1)) := by
  have e := split_at hi
  have es : (s.take i ++ [(q.1, v)] ++ s.drop (i + 1)).map (·.1) = s.map (·.1) := by
    conv => rhs; rw [e]
    simp
  have mem : ∀ p ∈ s.take i ++ [(q.1, v)] ++ s.drop (i + 1), p ∈ s ∨ p = (q.1, v) := fun p hp => by
    rcases List.mem_append.mp hp with hp | hp
    · rcases List.mem_append.mp hp with hp | hp
      · exact .inl (List.mem_of_mem_take hp)
      · exact .inr (List.mem_singleton.mp hp)
    · exact .inl (List.mem_of_mem_drop hp)
  have low2 : ∀ c ∈ ([97, 98] : W), low c = true := by decide
  refine ⟨scheme_src h.ok es (fun p hp => ?_) (fun p hp => ?_), by rw [lettersW_src es]; exact h.ls, fun p hp => ?_, ?_⟩
  · rcases mem p hp with hp | rfl
    · exact h.ok.tgt1 p hp
    · exact ⟨h1, h3⟩
  · rcases mem p hp with hp | rfl
    · exact h.ok.tgt2 p hp
    · exact List.all_eq_true.mpr fun c hc => low2 c (hv c hc)
  · rcases mem p hp with hp | rfl
    · exact h.tgt p hp
    · exact hv
  · have := congrArg List.length es
    rw [List.length_map, List.length_map] at this
    rw [this]; exact h.few
end TP
set_option Elab.async false
set_option linter.all false
set_option maxRecDepth 100000
set_option maxHeartbeats 400000

namespace Tx
open PySem PySem.Spec PyProof.Rows L2 TD TP NdefX LamX
def top (i : Nat) : Stmt := PySem.Challenge.pw_translit_k21_whole_triangle.main.body.getD i (.Pass ⟨0, 0, 0, 0⟩)
abbrev s_TranslitError : Stmt := top 1
abbrev s_InvalidChain : Stmt := top 2
abbrev s_is_string : Stmt := top 7
abbrev s_is_entry : Stmt := top 8
abbrev s_is_scheme : Stmt := top 9
abbrev s_letters_of : Stmt := top 10
abbrev s_longest : Stmt := top 11
abbrev s_write_table : Stmt := top 12
abbrev s_split : Stmt := top 13
abbrev s_mapped : Stmt := top 14
abbrev s_is_open : Stmt := top 16
abbrev s_feed : Stmt := top 17
abbrev s_run : Stmt := top 18
abbrev s_finish : Stmt := top 19
abbrev s_smallest : Stmt := top 20
abbrev s_is_chain : Stmt := top 22
abbrev s_need_chain : Stmt := top 23
abbrev s_tables_of : Stmt := top 24
abbrev s_smallest_difference : Stmt := top 25
abbrev s_difference : Stmt := top 26
abbrev s__law_draw : Stmt := top 28
abbrev s__law_pick : Stmt := top 29
abbrev s__law_string : Stmt := top 30
abbrev s__law_scheme : Stmt := top 31
abbrev s__law_near : Stmt := top 39
abbrev s__law_key : Stmt := top 40
abbrev s_law : Stmt := top 41
local macro_rules | `(tactic| walk_at "rx") => `(tactic| with_reducible first
  | exact rx_addI | exact rx_sub | exact rx_ltI | exact rx_le | exact rx_ge | exact rx_gtI | exact rx_ltS
  | apply rx_addS | apply rx_addL | apply rx_addT | exact rx_eqW | exact rx_neW | exact rx_eqI | exact rx_neI | apply rx_eq | apply rx_ne
  | exact rx_inStr | exact rx_inTbl | exact rx_inW | apply rx_inLm | apply rx_inList | apply rx_inTup | exact rx_inDict | exact rx_isNon | exact rx_isBl
  | apply rx_mulS | apply rx_mulL | apply rx_mulU | apply rx_divI | apply rx_modI | apply rx_powI | exact rx_eqSc)
local macro_rules | `(tactic| walk_at "rc") => `(tactic| with_reducible first
  | apply rc_lenS | exact rc_lenLm | exact rc_lenTm | exact rc_lenL | exact rc_lenT | exact rc_lenD | exact rc_lenSc | exact rc_isaS | exact rc_isaT | exact rc_isaL | exact rc_all | exact rc_any | exact rc_all2 | exact rc_any2
  | exact rc_tupL | exact rc_tupT | exact rc_ulL | exact rc_ulT | apply rc_ulS | exact rc_ulD | exact rc_min2 | exact rc_dictS | apply rc_sortT | exact rc_sortW | exact rc_minW | exact rc_maxL | exact rc_dictL | exact rc_dictT)
local macro_rules | `(tactic| walk_at "sb") => `(tactic| first | (with_reducible apply SubX.tbl) | ((with_reducible first | apply SubX.l | apply SubX.t | apply SubX.sc); first | rfl | assumption) | (with_reducible first | apply SubX.l | apply SubX.t | apply SubX.s | apply SubX.sc | apply SubX.k | apply SubX.ki | exact SlX.lm | exact SlX.tm | exact SlX.l | exact SlX.t | apply SlX.s))
local macro_rules | `(tactic| walk_at "rm") => `(tactic| with_reducible first | exact rm_starts | apply rm_join)
local macro_rules | `(tactic| walk_at "sq") => `(tactic| with_reducible first | exact SeqX.lm | exact SeqX.tm | exact SeqX.s | exact SeqX.l | exact SeqX.t | exact ZipX.lm | exact ZipX.tm | exact ZipX.l | exact ZipX.t)
local macro_rules | `(tactic| walk_at "sz") => `(tactic| first | ((with_reducible apply SubJ.mk); decide) | ((with_reducible show Few _); unfold Few; simp) | ((with_reducible show autoParam (List.length _ = _) _); rfl))
local macro_rules | `(tactic| walk_at "ev") => `(tactic| first
  | (with_reducible first | exact ev_int | exact ev_str | exact ev_bl | exact ev_non | exact ev_c | exact ea_nil | exact eo_none | exact eb_yes | exact g_name | exact gs_nil | exact ead_nil | exact ev_nilL)
  | ((with_reducible apply ev_vd); rfl) | ((with_reducible apply ev_vk); rfl) | ((with_reducible apply ev_vv); rfl) | ((with_reducible apply ev_vs); rfl)
  | ((with_reducible first
      | apply ea_cons | apply ead_cons | apply ev_lstD | apply ev_tupD | apply ev_op | apply ev_cb | apply ev_sub | apply ev_sl | apply eo_some | apply ev_chain
      | apply ev_neg | apply ev_andV | apply ev_orV | apply ev_notV | apply ev_m1 | apply ev_bm | apply ev_call
      | apply eb_test | apply eb_not | apply eb_and | apply eb_or | apply eb_truB
      | apply ev_lcA | apply ev_lcF | apply ev_lc2A | apply ev_lc2 | apply ei_seq | apply ei_zip | apply ei_rng1 | apply ei_rng2 | apply ei_rng3
      | apply g_tup | apply g_pair | apply gs_cons)
     ; all_goals (try with_reducible intros); all_goals (try walk_at "ev"))
  | walk_at "rx" | walk_at "rc" | walk_at "cl" | walk_at "sb" | walk_at "rm" | walk_at "sq" | walk_at "sz")
local macro_rules | `(tactic| walk_at "fit") => `(tactic| (with_reducible show Fits _); first | assumption | decide | (unfold Fits; omega) | (unfold Fits; simp; omega) | (unfold Fits; simp; done))
local macro_rules | `(tactic| walk_at "go") => `(tactic| ((with_reducible first | apply EvX.is | apply EvB.is); (walk_at "ev"); all_goals (try walk_at "fit")))

local macro_rules | `(tactic| walk_at "rm") => `(tactic| with_reducible first | apply rm_split | apply rm_joinP)
local macro_rules | `(tactic| walk_at "rc") => `(tactic| with_reducible first | exact rc_isE | exact rc_isV)

/-- what the top has left beside the defs -/
structure Txt (K : PySem.W.Frag) (mg : Str → Option Value) : Prop where
  b_isinstance : mg "isinstance" = none
  b_str : mg "str" = none
  b_all : mg "all" = none
  b_len : mg "len" = none
  b_tuple : mg "tuple" = none
  b_zip : mg "zip" = none
  b_range : mg "range" = none
  b_min : mg "min" = none
  b_dict : mg "dict" = none
  b_any : mg "any" = none
  b_sorted : mg "sorted" = none
  g_PART : ∃ t, mg "PART" = some (.int 3 t)
  g_LETTERS : ∃ t, mg "LETTERS" = some (.str (sw lowers) t)
  g_ENTRIES : ∃ t, mg "ENTRIES" = some (.int 10 t)
  x_InvalidChain : ExcT K mg "InvalidChain"
section
variable {P : Program} {w : World} {K : PySem.W.Frag} {mg : Str → Option Value} {base : Heap} {TK : List NdefX.NTab}

/-! is_string -/
inductive Ok_is_string : List DV → DV → Prop
  | t {v : D} {l m : Int} {al : W} (h : small v) : Ok_is_string [.d v, .d (.int l), .d (.int m), .d (ds al)] (.d (.bool (isStr v l m fun c => decide (c ∈ al))))
  | l {v : D} {l m : Int} {al : List W} (h : small v) : Ok_is_string [.d v, .d (.int l), .d (.int m), .d (encW al)] (.d (.bool (isStr v l m fun c => decide ([c] ∈ al))))
theorem sc_is_string : FnScope ["value", "least", "most", "allowed", "char"] ["value", "least", "most", "allowed"] (defScope s_is_string) := ⟨rfl, rfl, rfl, by decide +kernel, rfl, by decide +kernel, by decide +kernel⟩
theorem c_is_string (T : Txt K mg) (d : ∃ f, DefAt K "is_string" s_is_string f) (hm : Left K mg) : FnIs P w K mg base (L2N.CX P w) 1 "is_string" ["value", "least", "most", "allowed"] (spP K Ok_is_string) := by
  refine def_ok d (fun f e => hm _ _ e) sc_is_string (fun _ _ _ _ _ _ us hl => match us, hl with | [_, _, _, _], _ => rfl) (fun xs h => ?_) (fun f cdv A outer s H vs E hr => ⟨_, (PSs.nox (pss_one (ps_ret (pe_and (pe_callB call_isaQ (by rfl) T.b_isinstance (by decide +kernel) (pa_cons (pv 0) (pa_cons (pe_bltn (v := .ty "str") (by rfl) T.b_str (by decide +kernel) rfl) pa_nil))) (pe_and (pe_chain op_le op_le (pv 1) (pe_callB (CallR.k (K := K) (r := rLenU) call_lenU rfl) (by rfl) T.b_len (by decide +kernel) (pa_cons (pv 0) pa_nil)) (pv 2)) (pe_one (pe_callB (CallR.k (K := K) (r := rAll) (cr_all rfl) rfl) (by rfl) T.b_all (by decide +kernel) (pa_cons (pe_lc (own := [("char", 4)]) rfl sc_is_string.nd  (ki_seq (K := K) rfl (pv 0)) (blkOk_by (N := ["value", "least", "most", "allowed", "char"]) (sc := defScope s_is_string) (by decide +kernel)) (fun _ _ _ _ _ => (pg_name (i := 4) sc_is_string.nd rfl (Or.inl rfl))) (fun _ _ _ _ _ => pts_nil) (fun _ _ _ _ _ => (pe_cmpR (op_inU (by exact hr.units)) (pv 4) (pv 3) (by rfl)))) pa_nil)))))))), fun M xs Q S h => ?_⟩)
  · rcases h with ⟨_, ⟨⟩⟩ | ⟨_, ⟨⟩⟩ <;> rfl
  · rcases h with ⟨y, hy, k⟩ | ⟨_, ⟨⟩, _⟩
    cases hy with
    | t h =>
      rename_i v l m al
      refine s_ret (ρ := [.d v, .d (.int l), .d (.int m), .d (ds al), .z]) S ?_ k
      cases v with
      | str x =>
        obtain ⟨w, rfl⟩ : ∃ w, x = sw w := ⟨tl x, (sw_tl x).symm⟩
        have hz : w.length ≤ 1000000 := by rw [small, sw_len] at h; exact h
        apply EvX.is
        · walk_at "ev"
          all_goals exact hz
        · simp [isStr, PyData.isStr, Bool.and_assoc]
      | _ => exact ev_andF (x := PyData.isStr _) (by walk_at "ev") rfl
    | l h =>
      rename_i v l m al
      refine s_ret (ρ := [.d v, .d (.int l), .d (.int m), .d (encW al), .z]) S ?_ k
      cases v with
      | str x =>
        obtain ⟨w, rfl⟩ : ∃ w, x = sw w := ⟨tl x, (sw_tl x).symm⟩
        have hz : w.length ≤ 1000000 := by rw [small, sw_len] at h; exact h
        apply EvX.is
        · walk_at "ev"
          all_goals exact hz
        · simp [isStr, PyData.isStr, Bool.and_assoc]
      | _ => exact ev_andF (x := PyData.isStr _) (by walk_at "ev") rfl
local macro_rules | `(tactic| walk_at "cl") => `(tactic| with_reducible first | apply Ok_is_string.t | apply Ok_is_string.l)
/-! is_entry -/
inductive Ok_is_entry : List DV → DV → Prop
  | mk {v : D} (h : small v) : Ok_is_entry [.d v] (.d (.bool (isEntry v)))
theorem sc_is_entry : FnScope ["value", "part"] ["value"] (defScope s_is_entry) := ⟨rfl, rfl, rfl, by decide +kernel, rfl, by decide +kernel, by decide +kernel⟩
theorem c_is_entry (T : Txt K mg) (d : ∃ f, DefAt K "is_entry" s_is_entry f) (hm : Left K mg) (c_is_string : FnIs P w K mg base (L2N.CX P w) 1 "is_string" ["value", "least", "most", "allowed"] (spP K Ok_is_string)) : FnIs P w K mg base (L2N.CX P w) 2 "is_entry" ["value"] (spP K Ok_is_entry) := by
  refine def_ok d (fun f e => hm _ _ e) sc_is_entry (fun _ _ _ _ _ _ us hl => match us, hl with | [_], _ => rfl) (fun xs h => ?_) (fun f cdv A outer s H vs E hr => ⟨_, (PSs.nox (pss_cons (ps_if (PW.pt (pw_or (pt_not (kt_truth (K := K) rfl (pe_callB call_isaQ (by rfl) T.b_isinstance (by decide +kernel) (pa_cons (pv 0) (pa_cons (pe_bltn (v := .ty "tuple") (by rfl) T.b_tuple (by decide +kernel) rfl) pa_nil))) (by intro _; rfl))) (pw_or1 (pt_cmpR (op_neQ (by exact hr.units)) (pe_callB (CallR.k (K := K) (r := rLenU) call_lenU rfl) (by rfl) T.b_len (by decide +kernel) (pa_cons (pv 0) pa_nil)) pe_int (nomark _))))) (pss_one (ps_ret pe_bl)) pss_nil)
    (pss_one (ps_ret (pe_callB (CallR.k (K := K) (r := rAll) (cr_all rfl) rfl) (by rfl) T.b_all (by decide +kernel) (pa_cons (pe_lc (own := [("part", 1)]) rfl sc_is_entry.nd  (ki_seq (K := K) rfl (pv 0)) (blkOk_by (N := ["value", "part"]) (sc := defScope s_is_entry) (by decide +kernel)) (fun _ _ _ _ _ => (pg_name (i := 1) sc_is_entry.nd rfl (Or.inl rfl))) (fun _ _ _ _ _ => pts_nil) (fun _ _ _ _ _ => (pe_callF c_is_string (hr.mono (by decide)) passN (pa_cons (pv 1) (pa_cons pe_int (pa_cons (pe_gInt (by rfl) T.g_PART) (pa_cons (pe_gStr (by rfl) T.g_LETTERS) pa_nil))))))) pa_nil)))))), fun M xs Q S h => ?_⟩)
  · rcases h with ⟨_, ⟨⟩⟩ | ⟨_, ⟨⟩⟩ <;> rfl
  · rcases h with ⟨y, hy, k⟩ | ⟨_, ⟨⟩, _⟩
    cases hy with
    | mk h =>
      rename_i v
      have S0 : Sta K M H _ [.d v, .z] := S
      by_cases hv : ∃ a b, v = .tuple [a, b]
      · obtain ⟨a, b, rfl⟩ := hv
        refine q_when S0 (b := false) (by walk_at "go"; rfl) (fun h => by cases h) fun _ H1 s1 S1 => ?_
        refine s_ret S1 ?_ fun v H2 s2 => k v H2 (s1.trans s2)
        walk_at "go"
        · exact smallAll_mem h.2 ‹_›
        show DV.d (.bool ([a, b].all _)) = _
        simp only [List.all_cons, List.all_nil, Bool.and_true]; rfl
      · have e : isEntry v = false := by
          unfold isEntry; split
          · exact absurd ⟨_, _, rfl⟩ hv
          · rfl
        rw [e] at k
        refine q_when S0 (b := true) ?_ (fun _ H1 s1 S1 => s_ret S1 (by walk_at "ev") fun v H2 s2 => k v H2 (s1.trans s2)) (fun h => by cases h)
        cases v with
        | tuple xs =>
          apply EvB.is
          · walk_at "ev"
          · match xs with
            | [] => rfl
            | [_] => rfl
            | [a, b] => exact absurd ⟨a, b, rfl⟩ hv
            | _ :: _ :: _ :: xs => simp [PyData.isTuple]; omega
        | _ => exact eb_orT (x := !PyData.isTuple _) (by walk_at "ev") rfl
local macro_rules | `(tactic| walk_at "cl") => `(tactic| with_reducible apply Ok_is_entry.mk)
/-! is_scheme -/
inductive Ok_is_scheme : List DV → DV → Prop
  | mk {v : D} (h : small v) : Ok_is_scheme [.d v] (.d (.bool (isScheme v)))
theorem sc_is_scheme : FnScope ["value", "one", "sources", "other", "source", "char"] ["value"] (defScope s_is_scheme) := ⟨rfl, rfl, rfl, by decide +kernel, rfl, by decide +kernel, by decide +kernel⟩
theorem c_is_scheme (T : Txt K mg) (d : ∃ f, DefAt K "is_scheme" s_is_scheme f) (hm : Left K mg) (c_is_entry : FnIs P w K mg base (L2N.CX P w) 2 "is_entry" ["value"] (spP K Ok_is_entry)) : FnIs P w K mg base (L2N.CX P w) 3 "is_scheme" ["value"] (spP K Ok_is_scheme) := by
  refine def_ok d (fun f e => hm _ _ e) sc_is_scheme (fun _ _ _ _ _ _ us hl => match us, hl with | [_], _ => rfl) (fun xs h => ?_) (fun f cdv A outer s H vs E hr => ⟨_, (PSs.nox (pss_cons (ps_if (PW.pt (pw_or (pt_not (kt_truth (K := K) rfl (pe_callB call_isaQ (by rfl) T.b_isinstance (by decide +kernel) (pa_cons (pv 0) (pa_cons (pe_bltn (v := .ty "tuple") (by rfl) T.b_tuple (by decide +kernel) rfl) pa_nil))) (by intro _; rfl))) (pw_or (pt_not (pt_chain op_le op_le pe_int (pe_callB (CallR.k (K := K) (r := rLenU) call_lenU rfl) (by rfl) T.b_len (by decide +kernel) (pa_cons (pv 0) pa_nil)) (pe_gInt (by rfl) T.g_ENTRIES))) (pw_or1 (pt_not (kt_truth (K := K) rfl (pe_callB (CallR.k (K := K) (r := rAll) (cr_all rfl) rfl) (by rfl) T.b_all (by decide +kernel) (pa_cons (pe_lc (own := [("one", 1)]) rfl sc_is_scheme.nd  (ki_seq (K := K) rfl (pv 0)) (blkOk_by (N := ["value", "one", "sources", "other", "source", "char"]) (sc := defScope s_is_scheme) (by decide +kernel)) (fun _ _ _ _ _ => (pg_name (i := 1) sc_is_scheme.nd rfl (Or.inl rfl))) (fun _ _ _ _ _ => pts_nil) (fun _ _ _ _ _ => (pe_callF c_is_entry (hr.mono (by decide)) passN (pa_cons (pv 1) pa_nil)))) pa_nil)) (by intro _; rfl))))))) (pss_one (ps_ret pe_bl)) pss_nil)
    (pss_cons (ps_set (i := 2) sc_is_scheme.nd rfl (Or.inr rfl) (pe_lc (own := [("one", 1)]) rfl sc_is_scheme.nd  (ki_seq (K := K) rfl (pv 0)) (blkOk_by (N := ["value", "one", "sources", "other", "source", "char"]) (sc := defScope s_is_scheme) (by decide +kernel)) (fun _ _ _ _ _ => (pg_name (i := 1) sc_is_scheme.nd rfl (Or.inl rfl))) (fun _ _ _ _ _ => pts_nil) (fun _ _ _ _ _ => (k_sub (K := K) (by exact hr.units) rfl (pv 1) pe_int (by intro _ _; rfl)))))
    (pss_cons (ps_if (pt_not (kt_truth (K := K) rfl (pe_callB (CallR.k (K := K) (r := rAll) (cr_all rfl) rfl) (by rfl) T.b_all (by decide +kernel) (pa_cons (pe_lc (own := [("one", 1), ("other", 3)]) rfl sc_is_scheme.nd  (ki_zip (K := K) rfl (by rfl) T.b_zip (pa_cons (pv 2) (pa_cons (pe_slice (SlR.k (K := K) (r := rSlU) sl_U rfl) (pv 2) (po_some pe_int) po_none) pa_nil))) (blkOk_by (N := ["value", "one", "sources", "other", "source", "char"]) (sc := defScope s_is_scheme) (by decide +kernel)) (fun _ _ _ _ _ => (kg_tup (K := K) (n := 2) rfl rfl (pgs_cons (pg_name (i := 1) sc_is_scheme.nd rfl (Or.inl rfl)) (pgs_cons (pg_name (i := 3) sc_is_scheme.nd rfl (Or.inl rfl)) pgs_nil)))) (fun _ _ _ _ _ => pts_nil) (fun _ _ _ _ _ => (pe_cmpR (op_ltU (by exact hr.units)) (pv 1) (pv 3) (nomark _)))) pa_nil)) (by intro _; rfl))) (pss_one (ps_ret pe_bl)) pss_nil)
    (pss_one (ps_ret (pe_callB (CallR.k (K := K) (r := rAll) (cr_all rfl) rfl) (by rfl) T.b_all (by decide +kernel) (pa_cons (pe_lc2 (own := [("source", 4), ("char", 5)]) (vs1 := [5]) rfl sc_is_scheme.nd  (ki_seq (K := K) rfl (pv 2)) (blkOk_by (N := ["value", "one", "sources", "other", "source", "char"]) (sc := defScope s_is_scheme) (by decide +kernel)) (by decide) (fun _ _ _ _ _ => (pg_name (i := 4) sc_is_scheme.nd rfl (Or.inl rfl))) (fun _ _ _ _ _ => pts_nil) (fun _ _ _ _ _ => (ki_seq (K := K) rfl (pv 4))) (fun _ _ _ _ _ => (pg_name (i := 5) sc_is_scheme.nd rfl (Or.inl rfl))) (fun _ _ _ _ _ => pts_nil) (fun _ _ _ _ _ => (pe_cmpR (op_inU (by exact hr.units)) (pv 5) (pv 2) (by rfl)))) pa_nil)))))))), fun M xs Q S h => ?_⟩)
  · rcases h with ⟨_, ⟨⟩⟩ | ⟨_, ⟨⟩⟩ <;> rfl
  · rcases h with ⟨y, hy, k⟩ | ⟨_, ⟨⟩, _⟩
    cases hy with
    | mk h =>
      rename_i v
      have S0 : Sta K M H _ [.d v, .z, .z, .z, .z, .z] := S
      cases v with
      | tuple xs =>
        refine q_when S0 (b := !(decide (1 ≤ (xs.length : Int)) && decide ((xs.length : Int) ≤ 10) && xs.all isEntry)) ?_ (fun hb H1 s1 S1 => ?_) (fun hb H1 s1 S1 => ?_)
        · walk_at "go"
          · exact smallAll_mem h.2 ‹_›
          · exact h.1
          · simp [PyData.isTuple, Bool.not_and]
        · have e : isScheme (.tuple xs) = false := by
            rw [Bool.not_eq_true'] at hb
            rw [isScheme_tup, hb]; rfl
          rw [e] at k
          exact s_ret S1 (by walk_at "ev") fun v H2 s2 => k v H2 (s1.trans s2)
        · rw [Bool.not_eq_false'] at hb
          have e : isScheme (.tuple xs) = (ascending (xs.map srcD) && lettersIn (xs.map srcD)) := by
            rw [isScheme_tup, hb]; rfl
          rw [e] at k
          simp only [Bool.and_eq_true, decide_eq_true_eq] at hb
          obtain ⟨⟨hb1, hb2⟩, hb3⟩ := hb
          obtain ⟨s, rfl⟩ := all_entry hb3
          rw [map_src] at k
          rw [List.length_map] at hb2
          have hs : s.length ≤ 10 := by omega
          have h3 : ∀ p ∈ s, p.1.length ≤ 3 := fun p hp => by
            obtain ⟨q, e, g⟩ := isEntry_iff.mp (List.all_eq_true.mp hb3 _ (List.mem_map_of_mem hp))
            have := encP_inj e
            rw [this]; exact g.2.1
          refine q_asg S1 (x := .d (encW (s.map (·.1)))) ?_ fun σ2 H2 s2 S2 => ?_
          · walk_at "go"
            show DV.d (.list _) = DV.d (.list ((s.map _).map _))
            rw [List.map_map]; rfl
          refine q_when S2 (b := !ascending (s.map (·.1))) ?_ (fun hb H3 s3 S3 => ?_) (fun hb H3 s3 S3 => ?_)
          · walk_at "go"
            rw [cut_tail _ (by rw [List.length_map]; omega), all_asc]
          · rw [Bool.not_eq_true'] at hb
            rw [hb] at k
            exact s_ret S3 (x := .d (.bool false)) (by walk_at "ev") fun v H4 s4 => k v H4 (s1.trans (s2.trans (s3.trans s4)))
          · rw [Bool.not_eq_false'] at hb
            rw [hb] at k
            refine s_ret S3 ?_ fun v H4 s4 => k v H4 (s1.trans (s2.trans (s3.trans s4)))
            walk_at "go"
            · unfold Fits
              rw [List.length_flatMap]
              refine Nat.le_trans (sum_le (b := 3) fun n hn => ?_) ?_
              · obtain ⟨x, hx, rfl⟩ := List.mem_map.mp hn
                rw [List.length_map]
                obtain ⟨p, hp, rfl⟩ := List.mem_map.mp hx
                exact h3 p hp
              · rw [List.length_map, List.length_map]; omega
            · rfl
      | _ =>
        refine q_when S0 (b := true) (eb_orT (x := !PyData.isTuple _) (by walk_at "ev") rfl) (fun _ H1 s1 S1 => s_ret S1 (x := .d (.bool false)) (by walk_at "ev") fun v H2 s2 => k v H2 (s1.trans s2)) (fun h => by cases h)
local macro_rules | `(tactic| walk_at "cl") => `(tactic| with_reducible apply Ok_is_scheme.mk)
/-! letters_of -/
inductive Ok_letters_of : List DV → DV → Prop
  | mk {s : Sc} (h : Scheme s) : Ok_letters_of [.d (encS s)] (.d (encW (letters s)))
theorem sc_letters_of : FnScope ["scheme", "entry"] ["scheme"] (defScope s_letters_of) := ⟨rfl, rfl, rfl, by decide +kernel, rfl, by decide +kernel, by decide +kernel⟩
theorem c_letters_of (T : Txt K mg) (d : ∃ f, DefAt K "letters_of" s_letters_of f) (hm : Left K mg) : FnIs P w K mg base (L2N.CX P w) 1 "letters_of" ["scheme"] (spP K Ok_letters_of) := by
  refine def_ok d (fun f e => hm _ _ e) sc_letters_of (fun _ _ _ _ _ _ us hl => match us, hl with | [_], _ => rfl) (fun xs h => ?_) (fun f cdv A outer s H vs E hr => ⟨_, (PSs.nox (pss_one (ps_ret (pe_lc (own := [("entry", 1)]) rfl sc_letters_of.nd  (ki_seq (K := K) rfl (pv 0)) (blkOk_by (N := ["scheme", "entry"]) (sc := defScope s_letters_of) (by decide +kernel)) (fun _ _ _ _ _ => (pg_name (i := 1) sc_letters_of.nd rfl (Or.inl rfl))) (fun _ _ _ _ _ => (pts_one (pt_cmpR (op_eqQ (by exact hr.units)) (pe_callB (CallR.k (K := K) (r := rLenU) call_lenU rfl) (by rfl) T.b_len (by decide +kernel) (pa_cons (k_sub (K := K) (by exact hr.units) rfl (pv 1) pe_int (by intro _ _; rfl)) pa_nil)) pe_int (nomark _)))) (fun _ _ _ _ _ => (k_sub (K := K) (by exact hr.units) rfl (pv 1) pe_int (by intro _ _; rfl))))))), fun M xs Q S h => ?_⟩)
  · rcases h with ⟨_, ⟨⟩⟩ | ⟨_, ⟨⟩⟩ <;> rfl
  · rcases h with ⟨y, hy, k⟩ | ⟨_, ⟨⟩, _⟩
    cases hy with
    | mk h =>
      rename_i s
      refine s_ret (ρ := [.d (encS s), .z]) S ?_ k
      have h10 := h.ten
      have h3 := h.src1
      walk_at "go"
      · have := h3 _ ‹_›; show _ ≤ _; omega
      · show DV.d (.list _) = DV.d (.list ((List.map _ _).map _))
        rw [List.map_map]
        congr 3
        apply List.filter_congr
        intro p _
        exact decide_eq_decide.mpr (by omega)
local macro_rules | `(tactic| walk_at "cl") => `(tactic| with_reducible apply Ok_letters_of.mk)
/-! longest -/
inductive Ok_longest : List DV → DV → Prop
  | mk {t : Tb} {x : W} (h : Fits x.length) : Ok_longest [.k (encT t), .d (ds x)] (.d (encO (longest t x)))
theorem sc_longest : FnScope ["table", "text", "size"] ["table", "text"] (defScope s_longest) := ⟨rfl, rfl, rfl, by decide +kernel, rfl, by decide +kernel, by decide +kernel⟩
theorem c_longest (T : Txt K mg) (d : ∃ f, DefAt K "longest" s_longest f) (hm : Left K mg) : FnIs P w K mg base (L2N.CX P w) 1 "longest" ["table", "text"] (spP K Ok_longest) := by
  refine def_ok d (fun f e => hm _ _ e) sc_longest (fun _ _ _ _ _ _ us hl => match us, hl with | [_, _], _ => rfl) (fun xs h => ?_) (fun f cdv A outer s H vs E hr => ⟨_, (PSs.nox (pss_cons (ps_for PassesOwn.never rfl (pi_range3 (by rfl) T.b_range (pa_cons (pe_callB (call_min2 rfl) (by rfl) T.b_min (by decide +kernel) (pa_cons (pe_gInt (by rfl) T.g_PART) (pa_cons (pe_callB (CallR.k (K := K) (r := rLenU) call_lenU rfl) (by rfl) T.b_len (by decide +kernel) (pa_cons (pv 1) pa_nil)) pa_nil))) (pa_cons pe_int (pa_cons (pe_un un_neg pe_int) pa_nil)))) (pg_name (i := 2) sc_longest.nd rfl (Or.inl rfl)) (pss_one (ps_if (pt_cmpR (op_inU (by exact hr.units)) (pe_slice (SlR.k (K := K) (r := rSlU) sl_U rfl) (pv 1) po_none (po_some (pv 2))) (pv 0) (by rfl)) (pss_one (ps_ret (pe_slice (SlR.k (K := K) (r := rSlU) sl_U rfl) (pv 1) po_none (po_some (pv 2))))) pss_nil)))
    (pss_one (ps_ret pe_non)))), fun M xs Q S h => ?_⟩)
  · rcases h with ⟨_, ⟨⟩⟩ | ⟨_, ⟨⟩⟩ <;> rfl
  · rcases h with ⟨y, hy, k⟩ | ⟨_, ⟨⟩, _⟩
    cases hy with
    | mk h =>
      rename_i t x
      have S0 : Sta K M H _ [.k (encT t), .d (ds x), .z] := S
      refine q_for (ys := List.range (min 3 x.length)) (it := fun i => .d (.int ((min 3 x.length : Nat) - (i : Int)))) (js := [2]) (up := fun i ρ => ρ.set 2 (.d (.int ((min 3 x.length : Nat) - (i : Int))))) S0 ?_ (fun y hy ρ' => g_name)
        (fun i ρ' H' => (∃ z, ρ' = [.k (encT t), .d (ds x), z]) ∧ Same H H' ∧ longest t x = longestN t x (min 3 x.length - i)) (fun H1 s1 => ⟨⟨_, rfl⟩, s1, rfl⟩) ?_ ?_
      · apply EvI.is
        · walk_at "ev"
          · exact h
          · split <;> omega
        · have e : ((if (x.length : Int) < 3 then (x.length : Int) else 3) - 0).toNat = min 3 x.length := by split <;> omega
          rw [e]
          apply List.map_congr_left
          intro i hi
          show IV.d (.int _) = IV.d (.int _)
          congr 2
          split <;> omega
      · rintro i j σ' ρ' H' H3 Hb hj sb sm ⟨⟨z, rfl⟩, sH, e⟩ s3 S3
        obtain ⟨hlt, rfl⟩ := range_get hj
        refine s_if S3 (b := (TP.get t (x.take (min 3 x.length - j))).isSome) ?_ (fun hb H4 s4 S4 => ?_) (fun hb H4 s4 S4 => ?_)
        · walk_at "go"
          · exact h
          · rw [cut_take _ _ (by omega)]
            have e2 : (((min 3 x.length : Nat) : Int) - (j : Int)).toNat = min 3 x.length - j := by omega
            rw [e2]; rfl
        · have e3 : longest t x = some (x.take (min 3 x.length - j)) := by
            rw [e]
            cases q : min 3 x.length - j with
            | zero => omega
            | succ n => unfold longestN; rw [q] at hb; rw [if_pos hb]
          rw [e3] at k
          refine s_ret S4 ?_ fun v H5 s5 => k v H5 (sH.trans (s3.trans (s4.trans s5)))
          walk_at "go"
          · exact h
          · rw [cut_take _ _ (by omega)]
            have e2 : (((min 3 x.length : Nat) : Int) - (j : Int)).toNat = min 3 x.length - j := by omega
            rw [e2]
        · refine ⟨_, sm.trans (Same.hid (s3.trans s4)), S4, ⟨_, rfl⟩, sH.trans (s3.trans s4), ?_⟩
          rw [e]
          cases q : min 3 x.length - j with
          | zero => omega
          | succ n =>
            rw [q] at hb
            have e4 : min 3 x.length - (j + 1) = n := by omega
            rw [e4]
            conv => lhs; unfold longestN
            rw [if_neg (by rw [hb]; exact Bool.false_ne_true)]
      · rintro σ' ρ' H' sm S3 ⟨⟨z, rfl⟩, sH, e⟩
        rw [List.length_range, Nat.sub_self] at e
        rw [e] at k
        exact s_ret S3 (x := .d .none) (by walk_at "ev") fun v H2 s2 => k v H2 (sH.trans s2)
local macro_rules | `(tactic| walk_at "cl") => `(tactic| with_reducible apply Ok_longest.mk)
/-! write_table -/
inductive Ok_write_table : List DV → DV → Prop
  | mk {s : Sc} : Ok_write_table [.d (encS s)] (.k (encT (writeT s)))
  | l {s : Sc} : Ok_write_table [.d (.list (s.map encP))] (.k (encT (writeT s)))
theorem sc_write_table : FnScope ["scheme"] ["scheme"] (defScope s_write_table) := ⟨rfl, rfl, rfl, by decide +kernel, rfl, by decide +kernel, by decide +kernel⟩
theorem c_write_table (T : Txt K mg) (d : ∃ f, DefAt K "write_table" s_write_table f) (hm : Left K mg) : FnIs P w K mg base (L2N.CX P w) 1 "write_table" ["scheme"] (spP K Ok_write_table) := by
  refine def_ok d (fun f e => hm _ _ e) sc_write_table (fun _ _ _ _ _ _ us hl => match us, hl with | [_], _ => rfl) (fun xs h => ?_) (fun f cdv A outer s H vs E hr => ⟨_, (PSs.nox (pss_one (ps_ret (pe_callTy (CallR.k (K := K) (r := rDictP) (call_dictPT rfl) rfl) (by rfl) T.b_dict (by decide +kernel) (pa_cons (pv 0) pa_nil))))), fun M xs Q S h => ?_⟩)
  · rcases h with ⟨_, ⟨⟩⟩ | ⟨_, ⟨⟩⟩ <;> rfl
  · rcases h with ⟨y, hy, k⟩ | ⟨_, ⟨⟩, _⟩
    cases hy with
    | mk => exact s_ret (ρ := [.d (encS _)]) S (by walk_at "ev") k
    | l =>
      rename_i s
      refine s_ret (ρ := [.d (.list (s.map encP))]) S (ev_cb (xs := [.d (.list (s.map encP))]) (by walk_at "ev") ?_) k
      have e := rc_dictL (c := cz K M H) (K := K) (kvs := s.map fun p => ((Sum.inr (sw p.1) : Key), ds p.2))
      have e1 : (s.map fun p => ((Sum.inr (sw p.1) : Key), ds p.2)).map TD.pairD = s.map encP := by rw [List.map_map]; rfl
      have e2 := kmerge_enc [] s
      have e3 : (encT ([] : Tb)) = [] := rfl
      rw [e3] at e2
      rw [e1, e2] at e
      exact e
local macro_rules | `(tactic| walk_at "cl") => `(tactic| with_reducible apply Ok_write_table.mk)
/-! split -/
inductive Ok_split : List DV → DV → Prop
  | mk {t : Tb} {x : W} (h : Fits x.length) : Ok_split [.k (encT t), .d (ds x)] (.d (encOs (split t x)))
theorem sc_split : FnScope ["table", "text", "parts", "key"] ["table", "text"] (defScope s_split) := ⟨rfl, rfl, rfl, by decide +kernel, rfl, by decide +kernel, by decide +kernel⟩
theorem c_split (T : Txt K mg) (d : ∃ f, DefAt K "split" s_split f) (hm : Left K mg) (c_longest : FnIs P w K mg base (L2N.CX P w) 1 "longest" ["table", "text"] (spP K Ok_longest)) : FnIs P w K mg base (L2N.CX P w) 2 "split" ["table", "text"] (spP K Ok_split) := by
  refine def_ok d (fun f e => hm _ _ e) sc_split (fun _ _ _ _ _ _ us hl => match us, hl with | [_, _], _ => rfl) (fun xs h => ?_) (fun f cdv A outer s H vs E hr => ⟨_, (PSs.nox (pss_cons (ps_set (i := 2) sc_split.nd rfl (Or.inl rfl) (pe_lst pa_nil))
    (pss_cons (ps_while PassesOwn.never (pt_cmpR (op_neQ (by exact hr.units)) (pv 1) (pe_strW []) (nomark _)) (pss_cons (ps_set (i := 3) sc_split.nd rfl (Or.inl rfl) (pe_callF c_longest (hr.mono (by decide)) passN (pa_cons (pv 0) (pa_cons (pv 1) pa_nil))))
    (pss_cons (ps_if (pt_cmpR op_isU (pv 3) pe_non (nomark _)) (pss_one (ps_ret pe_non)) pss_nil)
    (pss_cons (ps_expr (k_bm (K := K) rfl PySem.F.plainAttrs_list PySem.F.slot_list_append PySem.F.type_list_append mt_append (pv 2) (pa_cons (pv 3) pa_nil)))
    (pss_one (ps_set (i := 1) sc_split.nd rfl (Or.inl rfl) (pe_slice (SlR.k (K := K) (r := rSlU) sl_U rfl) (pv 1) (po_some (pe_callB (CallR.k (K := K) (r := rLenU) call_lenU rfl) (by rfl) T.b_len (by decide +kernel) (pa_cons (pv 3) pa_nil))) po_none)))))))
    (pss_one (ps_ret (pv 2)))))), fun M xs Q S h => ?_⟩)
  · rcases h with ⟨_, ⟨⟩⟩ | ⟨_, ⟨⟩⟩ <;> rfl
  · rcases h with ⟨y, hy, k⟩ | ⟨_, ⟨⟩, _⟩
    cases hy with
    | mk h =>
      rename_i t x
      have S0 : Sta K M H _ [.k (encT t), .d (ds x), .z, .z] := S
      refine q_newL (xs := []) S0 ea_nil (by decide) fun p σ1 H1 hp np sh1 s1 S1 m1 => ?_
      refine q_while S1 (fun m ρ' H' => ∃ x' done z, ρ' = [.k (encT t), .d (ds x'), .v (.ref p), z] ∧ m = x'.length ∧ x'.length + done.length ≤ x.length ∧ split t x = (split t x').map (done ++ ·) ∧ ML (p :: M) H' p (done.map ds) ∧ Gr [p] H1 H') x.length
        ⟨x, [], .z, rfl, rfl, by simp, by simp, m1, Gr.refl _ _⟩ ?_
      rintro m σ' ρ' H' sm S2 ⟨x', done, z, rfl, rfl, hl, e, ml, g⟩
      refine ⟨!decide (x' = []), ?_, fun hb H3 s3 S3 => ?_, fun hb H3 s3 S3 => ?_⟩
      · walk_at "go"
        rfl
      · have hx : x' ≠ [] := by simpa using hb
        have hf : Fits x'.length := Nat.le_trans (by omega) h
        refine q_asg S3 (x := .d (encO (longest t x'))) (by walk_at "ev"; exact hf) fun σ4 H4 s4 S4 => ?_
        cases q : longest t x' with
        | none =>
          rw [q] at S4
          rw [e, split_none hx q] at k
          refine q_when S4 (b := true) (by walk_at "go"; rfl) (fun _ H5 s5 S5 => ?_) (fun hb => by cases hb)
          refine s_ret S5 (x := .d .none) (by walk_at "ev") fun v H6 s6 o => k v H6 ?_ (VOk.mono hid_cons o)
          exact (gr_new hp s1 g).trans (s3.trans (s4.trans (s5.trans s6)))
        | some key =>
          rw [q] at S4
          have l := longest_len q
          refine q_when S4 (b := false) (by walk_at "go"; rfl) (fun hb => by cases hb) fun _ H5 s5 S5 => ?_
          have m5 := ml.same (s3.trans (s4.trans s5))
          refine q_app S5 m5 (y := ds key) (by walk_at "ev") (by walk_at "ev") (by rw [List.length_map]; exact Nat.le_trans (by omega) h) fun H6 sh6 g6 S6 m6 => ?_
          refine s_asg S6 (x := .d (ds (x'.drop key.length))) ?_ fun σ7 H7 s7 S7 => ?_
          · walk_at "go"
            · show _ ≤ _; unfold Fits at hf; omega
            · exact hf
            · rw [cut_drop _ _ (by omega)]; rfl
          · refine ⟨_, ?_, _, sm.trans ((Same.hid (s3.trans (s4.trans s5))).trans (sh6.trans (Same.hid s7))), S7, x'.drop key.length, done ++ [key], _, rfl, rfl, ?_, ?_, ?_, ?_⟩
            · rw [List.length_drop]; omega
            · rw [List.length_drop, List.length_append, List.length_singleton]; omega
            · rw [e, split_some hx q, Option.map_map]
              congr 1
              funext r
              simp
            · rw [List.map_append]; exact m6.same s7
            · exact ((g.appS (s3.trans (s4.trans s5))).app g6).appS s7
      · have hx : x' = [] := by simpa using hb
        subst hx
        rw [split_nil] at e
        have e' : split t x = some done := by rw [e]; simp
        rw [e'] at k
        refine s_retL S3 np (ml.same s3) (by walk_at "ev") fun v H4 s4 => k v H4 ?_
        exact (gr_new hp s1 g).trans (s3.trans s4)
local macro_rules | `(tactic| walk_at "cl") => `(tactic| with_reducible apply Ok_split.mk)
/-! mapped -/
inductive Ok_mapped : List DV → DV → Prop
  | mk {t : Tb} {x : W} (h : x.length ≤ 25000) (h2 : ∀ p ∈ t, p.2.length ≤ 40) : Ok_mapped [.k (encT t), .d (ds x)] (.d (encO (mapped t x)))
theorem sc_mapped : FnScope ["table", "text", "parts", "key"] ["table", "text"] (defScope s_mapped) := ⟨rfl, rfl, rfl, by decide +kernel, rfl, by decide +kernel, by decide +kernel⟩
theorem c_mapped (T : Txt K mg) (d : ∃ f, DefAt K "mapped" s_mapped f) (hm : Left K mg) (c_split : FnIs P w K mg base (L2N.CX P w) 2 "split" ["table", "text"] (spP K Ok_split)) : FnIs P w K mg base (L2N.CX P w) 3 "mapped" ["table", "text"] (spP K Ok_mapped) := by
  refine def_ok d (fun f e => hm _ _ e) sc_mapped (fun _ _ _ _ _ _ us hl => match us, hl with | [_, _], _ => rfl) (fun xs h => ?_) (fun f cdv A outer s H vs E hr => ⟨_, (PSs.nox (pss_cons (ps_set (i := 2) sc_mapped.nd rfl (Or.inl rfl) (pe_callF c_split (hr.mono (by decide)) passN (pa_cons (pv 0) (pa_cons (pv 1) pa_nil))))
    (pss_one (ps_ret (pe_ifExp (pt_cmpR op_isU (pv 2) pe_non (nomark _)) pe_non (k_join (K := K) rfl (pe_strW []) (pe_lc (own := [("key", 3)]) rfl sc_mapped.nd  (ki_seq (K := K) rfl (pv 2)) (blkOk_by (N := ["table", "text", "parts", "key"]) (sc := defScope s_mapped) (by decide +kernel)) (fun _ _ _ _ _ => (pg_name (i := 3) sc_mapped.nd rfl (Or.inl rfl))) (fun _ _ _ _ _ => pts_nil) (fun _ _ _ _ _ => (k_sub (K := K) (by exact hr.units) rfl (pv 0) (pv 3) (by intro _ _; rfl)))))))))), fun M xs Q S h => ?_⟩)
  · rcases h with ⟨_, ⟨⟩⟩ | ⟨_, ⟨⟩⟩ <;> rfl
  · rcases h with ⟨y, hy, k⟩ | ⟨_, ⟨⟩, _⟩
    cases hy with
    | mk h h2 =>
      rename_i t x
      have S0 : Sta K M H _ [.k (encT t), .d (ds x), .z, .z] := S
      refine q_asg S0 (x := .d (encOs (split t x))) (by walk_at "ev"; show _ ≤ _; omega) fun σ1 H1 s1 S1 => ?_
      refine s_ret S1 ?_ fun v H2 s2 => k v H2 (s1.trans s2)
      unfold mapped
      cases e : split t x with
      | none =>
        refine ev_if (b := true) (by walk_at "go"; rfl) (fun _ => ?_) (fun h => by cases h)
        walk_at "go"
        rfl
      | some ps =>
        refine ev_if (b := false) (by walk_at "go"; rfl) (fun h => by cases h) (fun _ => ?_)
        have l := split_len _ (Nat.le_refl _) e
        have fl := flat_le (l := ps.map (val t)) (b := 40) fun y hy => by
          obtain ⟨q, _, rfl⟩ := List.mem_map.mp hy
          exact val_le h2 q
        rw [List.length_map] at fl
        walk_at "go"
        · exact get_val (split_mem _ (Nat.le_refl _) e _ ‹_›).1
        · show _ ≤ _; omega
        · rfl
local macro_rules | `(tactic| walk_at "cl") => `(tactic| with_reducible apply Ok_mapped.mk)
/-! _law_draw -/
inductive Ok__law_draw (t : Addr) : List DV → (DV → Prop) → Prop
  | mk {ns : List Int} {m : Int} (h : 0 < m) (h2 : m ≤ 1000000) : Ok__law_draw t [.s ns, .v (.ref t), .d (.int m)] (fun x => ∃ r : Nat, x = .d (.int r) ∧ (r : Int) < m)
theorem sc__law_draw : FnScope ["_law_script", "_law_town", "_law_many", "_law_one", "_law_at", "_law_mixed"] ["_law_script", "_law_town", "_law_many"] (defScope s__law_draw) := ⟨rfl, rfl, rfl, by decide +kernel, rfl, by decide +kernel, by decide +kernel⟩
theorem c__law_draw (T : Txt K mg) (d : ∃ f, DefAt K "_law_draw" s__law_draw f) (hm : Left K mg) : FnIs P w K mg base (L2N.CX P w) 1 "_law_draw" ["_law_script", "_law_town", "_law_many"] (spT K Ok__law_draw) := by
  refine def_okT d (fun f e => hm _ _ e) sc__law_draw (fun _ _ _ _ _ _ us hl => match us, hl with | [_, _, _], _ => rfl) (fun t xs Pd h => ?_) (fun f cdv A outer s H vs E hr => ⟨_, (PSs.nox (pss_cons (ps_if (pt_cmpR (op_gtU (by exact hr.units)) (k_sub (K := K) (by exact hr.units) rfl (pv 1) pe_int (by intro _ _; rfl)) pe_int (nomark _)) (pss_cons (ps_set (i := 3) sc__law_draw.nd rfl (Or.inl rfl) (pe_op op_mod (k_sub (K := K) (by exact hr.units) rfl (pv 1) pe_int (by intro _ _; rfl)) (pv 2)))
    (pss_cons (ps_asg (pe_op op_divU (k_sub (K := K) (by exact hr.units) rfl (pv 1) pe_int (by intro _ _; rfl)) (pv 2)) (pg_sub (pv 1) pe_int set_list))
    (pss_one (ps_ret (pv 3))))) pss_nil)
    (pss_cons (ps_set (i := 4) sc__law_draw.nd rfl (Or.inl rfl) (k_sub (K := K) (by exact hr.units) rfl (pv 1) pe_int (by intro _ _; rfl)))
    (pss_cons (ps_augS (pv 1) pe_int get_list pe_int ip_addU set_list)
    (pss_cons (ps_if (pt_cmpR (op_eqSc (by exact hr.units)) (pv 0) (pe_lst pa_nil) (nomark _)) (pss_one (ps_ret (pe_op op_mod (pv 4) (pv 2)))) pss_nil)
    (pss_cons (ps_if (PW.pt (pw_and (pt_cmpR (op_ltU (by exact hr.units)) (pv 4) (pe_callB (CallR.k (K := K) (r := rLenU) call_lenU rfl) (by rfl) T.b_len (by decide +kernel) (pa_cons (pv 0) pa_nil)) (nomark _)) (pw_and1 (pt_cmpR op_ge (k_sub (K := K) (by exact hr.units) rfl (pv 0) (pv 4) (by intro _ _; rfl)) (pe_op op_pow pe_int pe_int) (nomark _))))) (pss_cons (ps_asg (pe_op op_mod (pe_op op_divU (k_sub (K := K) (by exact hr.units) rfl (pv 0) (pv 4) (by intro _ _; rfl)) (pv 2)) (pe_op op_mulU (pe_op op_pow pe_int pe_int) (pe_op op_pow pe_int pe_int))) (pg_sub (pv 1) pe_int set_list))
    (pss_one (ps_ret (pe_op op_mod (k_sub (K := K) (by exact hr.units) rfl (pv 0) (pv 4) (by intro _ _; rfl)) (pv 2))))) pss_nil)
    (pss_cons (ps_set (i := 5) sc__law_draw.nd rfl (Or.inl rfl) (pe_op op_mod (pe_op (OpR.k (K := K) (r := rAddU) op_addU rfl) (pe_op (OpR.k (K := K) (r := rAddU) op_addU rfl) (pe_op op_mulU (k_sub (K := K) (by exact hr.units) rfl (pv 0) (pe_op op_mod (pv 4) (pe_callB (CallR.k (K := K) (r := rLenU) call_lenU rfl) (by rfl) T.b_len (by decide +kernel) (pa_cons (pv 0) pa_nil))) (by intro _ _; rfl)) pe_int) (pe_op op_mulU pe_int (pv 4))) pe_int) pe_int))
    (pss_one (ps_ret (pe_op op_mod (pe_op op_mod (pe_op op_mod (pe_op op_pow (pv 5) pe_int) pe_int) pe_int) (pv 2))))))))))), fun M t it xs Pd Q h S k => ?_⟩)
  · cases h <;> rfl
  · cases h with
    | mk h1 h2 =>
      rename_i ns m
      obtain ⟨S0, tm0, tw⟩ := S
      obtain ⟨p, r, hp, hr0, ht⟩ := it.town _ tw
      have tm := tm0 _ it.ha
      have S0 : Sta K M H _ [.s ns, .v (.ref t.a), .d (.int m), .z, .z, .z] := S0
      have fin : ∀ (x : Int) (v : V) (H' : Hp) (p' r' : Int), Gr [t.a] H H' → H' t.a = some (.lst [.int p', .int r']) → 0 ≤ p' → 0 ≤ r' → VOk K (hid M H') v (.d (.int (x % m))) → Q v H' := fun x v H' p' r' g e a b o =>
        k v _ H' ⟨(x % m).toNat, by rw [Int.toNat_of_nonneg (Int.emod_nonneg _ (by omega))], by rw [Int.toNat_of_nonneg (Int.emod_nonneg _ (by omega))]; exact Int.emod_lt_of_pos _ h1⟩ (g.mono fun b hb => by rw [List.mem_singleton.mp hb]; exact it.ha) (it.put _ _ p' r' tw g a b e) o
      have hdiv : ∀ i : Int, CDiv i m := fun i => ⟨h1, by omega⟩
      refine q_when S0 (b := decide (0 < r)) ?_ (fun hb H1 s1 S1 => ?_) (fun hb H1 s1 S1 => ?_)
      · apply EvB.is
        · apply eb_test
          apply ev_op
          · exact ev_town1 rfl ht (by walk_at "ev")
          · walk_at "ev"
          · walk_at "ev"
        · rfl
      · have ht1 := s1 _ _ ht
        refine q_asg S1 (x := .d (.int (r % m))) (ev_op (ev_town1 rfl ht1 (by walk_at "ev")) (by walk_at "ev") (rx_modI h1)) fun σ2 H2 s2 S2 => ?_
        have ht2 := s2 _ _ ht1
        refine q_tput (n := r / m) S2 tm ht2 (ev_op (ev_town1 rfl ht2 (by walk_at "ev")) (by walk_at "ev") (rx_divI (hdiv _))) (by walk_at "ev") fun H3 g3 ht3 S3 => ?_
        refine s_ret S3 (x := .d (.int (r % m))) (by walk_at "ev") fun v H4 s4 o4 => ?_
        exact fin r v H4 p (r / m) (((Same.gr (s1.trans s2)).trans g3).trans (Same.gr s4)) (s4 _ _ ht3) hp (Int.ediv_nonneg hr0 (by omega)) o4
      · have ht1 := s1 _ _ ht
        refine q_asg S1 (x := .d (.int p)) (ev_town0 rfl ht1 (by walk_at "ev")) fun σ2 H2 s2 S2 => ?_
        have ht2 := s2 _ _ ht1
        refine q_tinc (n := 1) S2 tm ht2 (by walk_at "ev") (by walk_at "ev") (fun H Q q => .inl ⟨p, 1, rfl, rfl, q⟩) fun H3 g3 ht3 S3 => ?_
        have g03 : Gr [t.a] H H3 := (Same.gr (s1.trans s2)).trans g3
        refine q_when S3 (b := decide (ns = [])) (eb_test (ev_op (by walk_at "ev") (by walk_at "ev") rx_eqSc)) (fun hb H4 s4 S4 => ?_) (fun hb H4 s4 S4 => ?_)
        · refine s_ret S4 (x := .d (.int (p % m))) (ev_op (by walk_at "ev") (by walk_at "ev") (rx_modI h1)) fun v H5 s5 o5 => ?_
          exact fin p v H5 (p + 1) r (g03.trans (Same.gr (s4.trans s5))) (s5 _ _ (s4 _ _ ht3)) (by omega) hr0 o5
        · have hne : ns ≠ [] := by simpa using hb
          have hlen : 0 < ns.length := List.length_pos_iff.mpr hne
          have g04 := g03.trans (Same.gr s4)
          have ht4 := s4 _ _ ht3
          have at_ : ∀ i : Nat, i < ns.length → atI ns (i : Int) = some (ns.getD i 0) := fun i hi => atI_nat (by
            rw [List.getD_eq_getElem?_getD, List.getElem?_eq_getElem hi]; rfl)
          obtain ⟨pn, rfl⟩ : ∃ pn : Nat, p = pn := ⟨p.toNat, (Int.toNat_of_nonneg hp).symm⟩
          have big : (0 : Int) < 10 ^ (60 : Int).toNat * 10 ^ (60 : Int).toNat := by decide
          refine q_when S4 (b := decide ((pn : Int) < (ns.length : Int)) && decide ((10 : Int) ^ (18 : Int).toNat ≤ ns.getD pn 0)) ?_ (fun hb H5 s5 S5 => ?_) (fun hb H5 s5 S5 => ?_)
          · by_cases hpl : pn < ns.length
            · have e := at_ pn hpl
              apply EvB.is
              · walk_at "ev"
                exact ⟨by decide, by decide, by decide⟩
              · rfl
            · apply EvB.is
              · exact eb_andF (x := decide ((pn : Int) < (ns.length : Int))) (by walk_at "ev") (decide_eq_false (by omega))
              · rw [decide_eq_false (show ¬ ((pn : Int) < (ns.length : Int)) by omega)]; rfl
          · rw [Bool.and_eq_true, decide_eq_true_iff, decide_eq_true_iff] at hb
            have e := at_ pn (by omega)
            refine q_tput (n := ns.getD pn 0 / m % (10 ^ (60 : Int).toNat * 10 ^ (60 : Int).toNat)) S5 tm (s5 _ _ ht4) ?_ (by walk_at "ev") fun H6 g6 ht6 S6 => ?_
            · walk_at "ev"
              · exact hdiv _
              · exact ⟨by decide, by decide, by decide⟩
              · exact ⟨by decide, by decide, by decide⟩
              · exact .inr (by unfold CMulW; decide +kernel)
              · exact big
            · refine s_ret S6 (x := .d (.int (ns.getD pn 0 % m))) ?_ fun v H7 s7 o7 => ?_
              · walk_at "ev"
                exact h1
              · exact fin _ v H7 (pn + 1) _ ((g04.trans (Same.gr s5)).trans (g6.trans (Same.gr s7))) (s7 _ _ ht6) (by omega) (Int.emod_nonneg _ (by omega)) o7
          · have e1 : (((pn : Int) % (ns.length : Int))) = ((pn % ns.length : Nat) : Int) := by omega
            have e := at_ (pn % ns.length) (Nat.mod_lt _ hlen)
            generalize hv1 : ns.getD (pn % ns.length) 0 = v1 at e
            rw [← e1] at e
            have hm : (0 : Int) < 2147483647 := by decide
            refine q_asg S5 (x := .d (.int ((v1 * 1103515245 + 7919 * pn + 12345) % 2147483647))) ?_ fun σ6 H6 s6 S6 => ?_
            · walk_at "ev"
              · omega
              · exact .inl (.inr ⟨by decide, by decide⟩)
              · exact .inl (.inl ⟨by decide, by decide⟩)
              · exact hm
            · have b0 := Int.emod_nonneg (v1 * 1103515245 + 7919 * pn + 12345) (b := 2147483647) (by decide)
              have b1 := Int.emod_lt_of_pos (v1 * 1103515245 + 7919 * pn + 12345) hm
              generalize (v1 * 1103515245 + 7919 * (pn : Int) + 12345) % 2147483647 = mx at b0 b1 S6
              refine s_ret S6 (x := .d (.int (mx ^ (5 : Int).toNat % 2147483647 % 999983 % m))) ?_ fun v H7 s7 o7 => ?_
              · walk_at "ev"
                · exact ⟨by decide, by decide, by omega⟩
                · exact hm
                · decide
                · exact h1
              · exact fin _ v H7 (pn + 1) r (g04.trans (Same.gr (s5.trans (s6.trans s7)))) (s7 _ _ (s6 _ _ (s5 _ _ ht4))) (by omega) hr0 o7
/-! _law_pick -/
inductive Ok__law_pick (t : Addr) : List DV → (DV → Prop) → Prop
  | l {ns : List Int} {xs : List D} (h : xs ≠ []) (h2 : Fits xs.length) : Ok__law_pick t [.s ns, .v (.ref t), .d (.list xs)] (fun x => ∃ y, y ∈ xs ∧ x = .d y)
  | s {ns : List Int} {l : W} (h : l ≠ []) (h2 : Fits l.length) : Ok__law_pick t [.s ns, .v (.ref t), .d (ds l)] (fun x => ∃ c, c ∈ l ∧ x = .d (ds [c]))
theorem sc__law_pick : FnScope ["_law_script", "_law_town", "_law_some"] ["_law_script", "_law_town", "_law_some"] (defScope s__law_pick) := ⟨rfl, rfl, rfl, by decide +kernel, rfl, by decide +kernel, by decide +kernel⟩
theorem c__law_pick (T : Txt K mg) (d : ∃ f, DefAt K "_law_pick" s__law_pick f) (hm : Left K mg) (c__law_draw : FnIs P w K mg base (L2N.CX P w) 1 "_law_draw" ["_law_script", "_law_town", "_law_many"] (spT K Ok__law_draw)) : FnIs P w K mg base (L2N.CX P w) 2 "_law_pick" ["_law_script", "_law_town", "_law_some"] (spT K Ok__law_pick) := by
  refine def_okT d (fun f e => hm _ _ e) sc__law_pick (fun _ _ _ _ _ _ us hl => match us, hl with | [_, _, _], _ => rfl) (fun t xs Pd h => ?_) (fun f cdv A outer s H vs E hr => ⟨_, (PSs.nox (pss_one (ps_ret (k_sub (K := K) (by exact hr.units) rfl (pv 2) (pe_callF c__law_draw (hr.mono (by decide)) passN (pa_cons (pv 0) (pa_cons (pv 1) (pa_cons (pe_callB (CallR.k (K := K) (r := rLenU) call_lenU rfl) (by rfl) T.b_len (by decide +kernel) (pa_cons (pv 2) pa_nil)) pa_nil)))) (by intro _ _; rfl))))), fun M t it xs Pd Q h S k => ?_⟩)
  · cases h <;> rfl
  · cases h with
    | l h h2 =>
      rename_i ns xs
      have hl := List.length_pos_iff.mpr h
      refine st_ret (ρ := [.s ns, .v (.ref t.a), .d (.list xs)]) S ?_ k
      refine et_sub (x := .d (.list xs)) (by walk_at "ev") (et_call (xs := [.s ns, .v (.ref t.a), .d (.int xs.length)]) (by walk_at "ev") (.mk (by omega) (by unfold Fits at h2; omega))) ?_
      rintro y ⟨r, rfl, hr⟩
      have hr' : r < xs.length := by omega
      exact ⟨_, ⟨_, List.getElem_mem hr', rfl⟩, rx_ixL (atI_nat (List.getElem?_eq_getElem hr'))⟩
    | s h h2 =>
      rename_i ns l
      have hl := List.length_pos_iff.mpr h
      refine st_ret (ρ := [.s ns, .v (.ref t.a), .d (ds l)]) S ?_ k
      refine et_sub (x := .d (ds l)) (by walk_at "ev") (et_call (xs := [.s ns, .v (.ref t.a), .d (.int l.length)]) (by walk_at "ev"; exact h2) (.mk (by omega) (by unfold Fits at h2; omega))) ?_
      rintro y ⟨r, rfl, hr⟩
      have hr' : r < l.length := by omega
      exact ⟨_, ⟨_, List.getElem_mem hr', rfl⟩, rx_ixS (atI_nat (List.getElem?_eq_getElem hr')) h2⟩
/-! _law_string -/
inductive Ok__law_string (t : Addr) : List DV → (DV → Prop) → Prop
  | s {ns : List Int} {l : W} {a b : Int} (h : l ≠ []) (h2 : Fits l.length) (ha : 0 ≤ a) (hab : a ≤ b) (hb : b ≤ 1000) : Ok__law_string t [.s ns, .v (.ref t), .d (ds l), .d (.int a), .d (.int b)] (fun x => ∃ w : W, x = .d (ds w) ∧ (∀ c ∈ w, c ∈ l) ∧ a ≤ (w.length : Int) ∧ (w.length : Int) ≤ b)
theorem sc__law_string : FnScope ["_law_script", "_law_town", "_law_letters_here", "_law_least", "_law_most", "_law_k"] ["_law_script", "_law_town", "_law_letters_here", "_law_least", "_law_most"] (defScope s__law_string) := ⟨rfl, rfl, rfl, by decide +kernel, rfl, by decide +kernel, by decide +kernel⟩
theorem c__law_string (T : Txt K mg) (d : ∃ f, DefAt K "_law_string" s__law_string f) (hm : Left K mg) (c__law_pick : FnIs P w K mg base (L2N.CX P w) 2 "_law_pick" ["_law_script", "_law_town", "_law_some"] (spT K Ok__law_pick)) (c__law_draw : FnIs P w K mg base (L2N.CX P w) 1 "_law_draw" ["_law_script", "_law_town", "_law_many"] (spT K Ok__law_draw)) : FnIs P w K mg base (L2N.CX P w) 3 "_law_string" ["_law_script", "_law_town", "_law_letters_here", "_law_least", "_law_most"] (spT K Ok__law_string) := by
  refine def_okT d (fun f e => hm _ _ e) sc__law_string (fun _ _ _ _ _ _ us hl => match us, hl with | [_, _, _, _, _], _ => rfl) (fun t xs Pd h => ?_) (fun f cdv A outer s H vs E hr => ⟨_, (PSs.nox (pss_one (ps_ret (k_join (K := K) rfl (pe_strW []) (pe_lc (own := [("_law_k", 5)]) rfl sc__law_string.nd  (pi_range1 (by rfl) T.b_range (pa_cons (pe_op (OpR.k (K := K) (r := rAddU) op_addU rfl) (pv 3) (pe_callF c__law_draw (hr.mono (by decide)) passN (pa_cons (pv 0) (pa_cons (pv 1) (pa_cons (pe_op (OpR.k (K := K) (r := rAddU) op_addU rfl) (pe_op op_sub (pv 4) (pv 3)) pe_int) pa_nil))))) pa_nil)) (blkOk_by (N := ["_law_script", "_law_town", "_law_letters_here", "_law_least", "_law_most", "_law_k"]) (sc := defScope s__law_string) (by decide +kernel)) (fun _ _ _ _ _ => (pg_name (i := 5) sc__law_string.nd rfl (Or.inl rfl))) (fun _ _ _ _ _ => pts_nil) (fun _ _ _ _ _ => (pe_callF c__law_pick (hr.mono (by decide)) passN (pa_cons (pv 0) (pa_cons (pv 1) (pa_cons (pv 2) pa_nil)))))))))), fun M t it xs Pd Q h S k => ?_⟩)
  · cases h <;> rfl
  · cases h with
    | s h h2 ha hab hb =>
      rename_i ns l a b
      refine st_ret (ρ := [.s ns, .v (.ref t.a), .d (ds l), .d (.int a), .d (.int b), .z]) S ?_ k
      refine et_m1 (x := sw []) ev_str (et_lc (P := fun x => ∃ cs : W, x = .d (.list (cs.map fun c => ds [c])) ∧ (∀ c ∈ cs, c ∈ l) ∧ a ≤ (cs.length : Int) ∧ (cs.length : Int) ≤ b)
        (Py := fun ys : List Nat => ∃ n, ys = List.range n ∧ a ≤ (n : Int) ∧ (n : Int) ≤ b) (R := fun _ d => ∃ c, c ∈ l ∧ d = ds [c]) (eit_rng (Pn := fun n => a ≤ (n : Int) ∧ (n : Int) ≤ b) ?_) (fun ys x _ _ => g_name) (.mk rfl) ?_ ?_ ?_) ?_
      · refine (eat_one (et_op (P := fun x => ∃ n : Nat, x = .d (.int n) ∧ a ≤ (n : Int) ∧ (n : Int) ≤ b) (et_x (x := .d (.int a)) (by walk_at "ev")) (et_call (xs := [.s ns, .v (.ref t.a), .d (.int (b - a + 1))]) (by walk_at "ev") (.mk (by omega) (by omega))) ?_)).imp ?_
        · rintro _ _ rfl ⟨r, rfl, hr⟩
          exact ⟨_, ⟨(a + r).toNat, by rw [Int.toNat_of_nonneg (by omega)], by omega, by omega⟩, rx_addI⟩
        · rintro _ ⟨_, rfl, n, rfl, h1, h2⟩
          exact ⟨n, rfl, by omega, h1, h2⟩
      · rintro q ys x _ _
        refine (et_call (xs := [.s ns, .v (.ref t.a), .d (ds l)]) (by walk_at "ev") (.s h h2)).imp ?_
        rintro _ ⟨c, hc, rfl⟩
        exact ⟨_, rfl, c, hc, rfl⟩
      · rintro ys ⟨n, rfl, h3, h4⟩
        rw [List.length_range]; show n ≤ 1000000; omega
      · rintro ys zs ⟨n, rfl, h3, h4⟩ p
        obtain ⟨cs, rfl, e, m⟩ := paired_chars p
        rw [List.length_range] at e
        exact ⟨cs, rfl, m, by omega, by omega⟩
      · rintro _ ⟨cs, rfl, m, h3, h4⟩
        have e : (cs.map fun c => [c]).flatten = cs := flat_sing cs
        refine ⟨_, ⟨cs, rfl, m, h3, h4⟩, ?_⟩
        have j := rm_join (c := czT K M t H) (K := K) (xs := cs) (g := fun c => [c]) (by rw [e]; omega)
        rw [e] at j
        exact j
/-! _law_scheme -/
inductive Ok__law_scheme (t : Addr) : List DV → (DV → Prop) → Prop
  | mk {ns : List Int} {l g : W} {m : Int} (hl : l ≠ []) (hl2 : ∀ c ∈ l, c ∈ lowers) (hg : g ≠ []) (hg2 : ∀ c ∈ g, c ∈ lowers) (hm : 0 ≤ m) (hz : (l.length : Int) + m ≤ 10) (hz2 : Fits g.length) : Ok__law_scheme t [.s ns, .v (.ref t), .d (ds l), .d (ds g), .d (.int m)] (fun x => ∃ s : Sc, x = .d (encS s) ∧ Made l g s ∧ (s.length : Int) ≤ l.length + m)
theorem sc__law_scheme : FnScope ["_law_script", "_law_town", "_law_letters_here", "_law_targets", "_law_more", "_law_pairs", "_law_one", "_law_k"] ["_law_script", "_law_town", "_law_letters_here", "_law_targets", "_law_more"] (defScope s__law_scheme) := ⟨rfl, rfl, rfl, by decide +kernel, rfl, by decide +kernel, by decide +kernel⟩
theorem c__law_scheme (T : Txt K mg) (d : ∃ f, DefAt K "_law_scheme" s__law_scheme f) (hm : Left K mg) (c__law_draw : FnIs P w K mg base (L2N.CX P w) 1 "_law_draw" ["_law_script", "_law_town", "_law_many"] (spT K Ok__law_draw)) (c__law_string : FnIs P w K mg base (L2N.CX P w) 3 "_law_string" ["_law_script", "_law_town", "_law_letters_here", "_law_least", "_law_most"] (spT K Ok__law_string)) : FnIs P w K mg base (L2N.CX P w) 4 "_law_scheme" ["_law_script", "_law_town", "_law_letters_here", "_law_targets", "_law_more"] (spT K Ok__law_scheme) := by
  refine def_okT d (fun f e => hm _ _ e) sc__law_scheme (fun _ _ _ _ _ _ us hl => match us, hl with | [_, _, _, _, _], _ => rfl) (fun t xs Pd h => ?_) (fun f cdv A outer s H vs E hr => ⟨_, (PSs.nox (pss_cons (ps_set (i := 5) sc__law_scheme.nd rfl (Or.inr rfl) (pe_callTy (CallR.k (K := K) (r := rDictP) (call_dictPT rfl) rfl) (by rfl) T.b_dict (by decide +kernel) (pa_cons (pe_lc (own := [("_law_one", 6)]) rfl sc__law_scheme.nd  (ki_seq (K := K) rfl (pv 2)) (blkOk_by (N := ["_law_script", "_law_town", "_law_letters_here", "_law_targets", "_law_more", "_law_pairs", "_law_one", "_law_k"]) (sc := defScope s__law_scheme) (by decide +kernel)) (fun _ _ _ _ _ => (pg_name (i := 6) sc__law_scheme.nd rfl (Or.inl rfl))) (fun _ _ _ _ _ => pts_nil) (fun _ _ _ _ _ => (pe_tupF (pa_cons (pv 6) (pa_cons (pe_callF c__law_string (hr.mono (by decide)) passN (pa_cons (pv 0) (pa_cons (pv 1) (pa_cons (pv 3) (pa_cons pe_int (pa_cons pe_int pa_nil)))))) pa_nil))))) pa_nil)))
    (pss_cons (ps_for PassesOwn.never rfl (pi_range1 (by rfl) T.b_range (pa_cons (pe_callF c__law_draw (hr.mono (by decide)) passN (pa_cons (pv 0) (pa_cons (pv 1) (pa_cons (pe_op (OpR.k (K := K) (r := rAddU) op_addU rfl) (pv 4) pe_int) pa_nil)))) pa_nil)) (pg_name (i := 7) sc__law_scheme.nd rfl (Or.inl rfl)) (pss_one (ps_dput (units1 (by exact hr.units)) (pv 5) (pe_callF c__law_string (hr.mono (by decide)) passN (pa_cons (pv 0) (pa_cons (pv 1) (pa_cons (pv 2) (pa_cons pe_int (pa_cons pe_int pa_nil)))))) (pe_callF c__law_string (hr.mono (by decide)) passN (pa_cons (pv 0) (pa_cons (pv 1) (pa_cons (pv 3) (pa_cons pe_int (pa_cons pe_int pa_nil)))))) rfl)))
    (pss_one (ps_ret (pe_callTy (CallR.k (K := K) (r := rTupOf) call_tupleF rfl) (by rfl) T.b_tuple (by decide +kernel) (pa_cons (pe_lc (own := [("_law_one", 6)]) rfl sc__law_scheme.nd  (ki_seq (K := K) rfl (pe_callB (call_sortedU rfl (by exact hr.units)) (by rfl) T.b_sorted (by decide +kernel) (pa_cons (pv 5) pa_nil))) (blkOk_by (N := ["_law_script", "_law_town", "_law_letters_here", "_law_targets", "_law_more", "_law_pairs", "_law_one", "_law_k"]) (sc := defScope s__law_scheme) (by decide +kernel)) (fun _ _ _ _ _ => (pg_name (i := 6) sc__law_scheme.nd rfl (Or.inl rfl))) (fun _ _ _ _ _ => pts_nil) (fun _ _ _ _ _ => (pe_tupF (pa_cons (pv 6) (pa_cons (k_sub (K := K) (by exact hr.units) rfl (pv 5) (pv 6) (by intro _ _; rfl)) pa_nil))))) pa_nil))))))), fun M t it xs Pd Q h S k => ?_⟩)
  · cases h <;> rfl
  · cases h with
    | mk hl hl2 hg hg2 hm hz hz2 =>
      rename_i ns l g m
      have S0 : StaT K M t H _ [.s ns, .v (.ref t.a), .d (ds l), .d (ds g), .d (.int m), .z, .z, .z] := S
      have hll : 1 ≤ l.length := List.length_pos_iff.mpr hl
      refine qt_newD (Pk := fun kvs => kvs.map (·.1) = l.map (fun c => [c]) ∧ ∀ q ∈ kvs, ∃ c ∈ l, q.1 = [c] ∧ 1 ≤ q.2.length ∧ q.2.length ≤ 3 ∧ ∀ d ∈ q.2, d ∈ g) S0 ?_ fun p kvs σ1 H1 ⟨ek, hk⟩ hp np g1 S1 m1 => ?_
      · refine (eat_one (et_lc (P := fun x => ∃ kvs : Sc, x = .d (.list (kvs.map encP)) ∧ kvs.map (·.1) = l.map (fun c => [c]) ∧ ∀ q ∈ kvs, ∃ c ∈ l, q.1 = [c] ∧ 1 ≤ q.2.length ∧ q.2.length ≤ 3 ∧ ∀ d ∈ q.2, d ∈ g)
          (Py := fun ys => ys = l) (R := fun c d => ∃ w, d = encP ([c], w) ∧ 1 ≤ w.length ∧ w.length ≤ 3 ∧ ∀ d ∈ w, d ∈ g) ((eit_pure (its := l.map fun n => .d (ds [n])) (by walk_at "ev")).imp fun its e => ⟨l, rfl, e⟩) (fun ys x _ _ => g_name) (.mk rfl) ?_ ?_ ?_)).imp ?_
        · rintro q ys c _ hc
          refine et_tup ((eat_cons (et_x (x := .d (ds [c])) (by walk_at "ev")) (eat_one (et_call (xs := [.s ns, .v (.ref t.a), .d (ds g), .d (.int 1), .d (.int 3)]) (by walk_at "ev") (.s hg hz2 (by decide) (by decide) (by decide))))).imp ?_)
          rintro _ ⟨_, _, rfl, rfl, _, rfl, w, rfl, h1, h2, h3⟩
          exact ⟨[ds [c], ds w], rfl, by show 2 ≤ 1000; decide, _, rfl, w, rfl, by omega, by omega, h1⟩
        · rintro ys rfl; show _ ≤ _; omega
        · rintro ys zs rfl pr
          obtain ⟨kvs, rfl, e, h⟩ := paired_pairs (P := fun _ w => 1 ≤ w.length ∧ w.length ≤ 3 ∧ ∀ d ∈ w, d ∈ g) pr
          exact ⟨kvs, rfl, e, h⟩
        · rintro _ ⟨_, rfl, kvs, rfl, h⟩
          exact ⟨kvs, rfl, h⟩
      · have hpt : p ∉ t.L := S0.tw.out hp
        obtain ⟨w1, w2, w3⟩ := writeT_tbl (l := l) (g := g) (s := kvs) fun q hq => by
          obtain ⟨c, hc, e, h1, h2, h3⟩ := hk q hq
          rw [e]
          exact ⟨⟨by simp, by simp, fun d hd => by simp at hd; rw [hd]; exact hc⟩, h1, h2, h3⟩
        have hkl : kvs.length = l.length := by have := congrArg List.length ek; simpa using this
        have w4 : ∀ c ∈ l, [c] ∈ (writeT kvs).map (·.1) := fun c hc => by
          have : [c] ∈ kvs.map (·.1) := by rw [ek]; exact List.mem_map_of_mem hc
          obtain ⟨q, hq, e⟩ := List.mem_map.mp this
          rw [← e]; exact w3 q hq
        refine qt_for (α := Nat) (it := fun i => .d (.int (0 + (i : Int)))) (js := [7]) (up := fun i ρ => ρ.set 7 (.d (.int (0 + (i : Int))))) (Py := fun ys => ∃ n, ys = List.range n ∧ (n : Int) < m + 1) S1 (eit_rng (Pn := fun n => (n : Int) < m + 1) ?_) (fun y ρ' => g_name)
          (fun ys i ρ' H' => (∃ y z, ρ' = [.s ns, .v (.ref t.a), .d (ds l), .d (ds g), .d (.int m), .v (.ref p), y, z]) ∧ TownAt t H' ∧ Gr (p :: t.L) H1 H' ∧ ∃ tb, MK (p :: M) H' p (encT tb) ∧ Tbl l g tb ∧ tb.length ≤ l.length + i ∧ 1 ≤ tb.length ∧ ∀ c ∈ l, [c] ∈ tb.map (·.1)) ?_ ?_ ?_
        · refine (eat_one (et_call (xs := [.s ns, .v (.ref t.a), .d (.int (m + 1))]) (by walk_at "ev") (.mk (by omega) (by omega)))).imp ?_
          rintro _ ⟨_, rfl, r, rfl, hr⟩
          exact ⟨r, rfl, by omega, hr⟩
        · rintro ys H2 ⟨n, rfl, hn⟩ g2 w
          refine ⟨⟨_, _, rfl⟩, w, g2.mono (fun b hb => List.mem_cons_of_mem _ hb), _, ?_, w1, by omega, ?_, w4⟩
          · obtain ⟨a, vs, e1, e2⟩ := m1
            exact ⟨a, vs, g2 _ _ hpt e1, e2.mono (Gr.hid g2 S1.tm)⟩
          · rcases l with _ | ⟨c, l⟩
            · exact absurd rfl hl
            · have := w4 c List.mem_cons_self
              have := List.length_pos_of_mem this
              rwa [List.length_map] at this
        · rintro ys i j σ' ρ' H' H3 Hb ⟨n, rfl, hn⟩ hj sb sm ⟨⟨y, z, rfl⟩, w, gr, tb, mk, tbl, hlen, hpos, hall⟩ s3 S3
          obtain ⟨hi, rfl⟩ := range_get hj
          have St3 : StaT K (p :: M) t H3 σ' _ := ⟨S3, S1.tm, w.same s3⟩
          refine st_dput (Pk := fun w => 2 ≤ w.length ∧ w.length ≤ 3 ∧ ∀ c ∈ w, c ∈ l) (Pv := fun w => 1 ≤ w.length ∧ w.length ≤ 3 ∧ ∀ c ∈ w, c ∈ g) St3 (mk.same s3) hpt (by walk_at "ev") ?_ ?_ (by omega) fun kw vw H4 pk pv g4 S4 mk4 => ?_
          · refine (et_call (xs := [.s ns, .v (.ref t.a), .d (ds l), .d (.int 2), .d (.int 3)]) (by walk_at "ev") (.s hl (by show _ ≤ _; omega) (by decide) (by decide) (by decide))).imp ?_
            rintro _ ⟨w, rfl, h1, h2, h3⟩
            exact ⟨w, rfl, by omega, by omega, h1⟩
          · refine (et_call (xs := [.s ns, .v (.ref t.a), .d (ds g), .d (.int 1), .d (.int 3)]) (by walk_at "ev") (.s hg hz2 (by decide) (by decide) (by decide))).imp ?_
            rintro _ ⟨w, rfl, h1, h2, h3⟩
            exact ⟨w, rfl, by omega, by omega, h1⟩
          · have := put_length tb kw vw
            refine ⟨_, sm.trans ((Same.hid s3).trans (Gr.hid g4 fun b hb => by
              rcases List.mem_cons.mp hb with rfl | hb
              · exact List.mem_cons_self
              · exact S1.tm b hb)), S4.sta, ⟨_, _, rfl⟩, S4.tw, (gr.trans (Same.gr s3)).trans g4, _, mk4, tbl.put ⟨by omega, pk.2⟩ pv, by omega, ?_, fun c hc => put_has (hall c hc)⟩
            have := put_new tb kw vw
            have := List.length_pos_of_mem this
            rwa [List.length_map] at this
        · rintro ys σ' ρ' H' ⟨n, rfl, hn⟩ sm S3 ⟨⟨y, z, rfl⟩, w, gr, tb, mk, tbl, hlen, hpos, hall⟩
          rw [List.length_range] at hlen
          have St3 : StaT K (p :: M) t H' σ' _ := ⟨S3, S1.tm, w⟩
          have St4 := unhideK (i := 5) St3 np hpt mk rfl
          have hm := ofT_made tbl hl2 hg2 hpos (by omega) hall
          refine s_ret St4.sta (x := .d (encS (ofT tb))) ?_ fun v H4 s4 o4 => k v _ H4 ⟨_, rfl, hm, by have : (ofT tb).length = tb.length := (by unfold ofT; rw [List.length_map, (sortW_perm _).length_eq, List.length_map]); omega⟩ ?_ (w.same s4) o4
          · have hget : ∀ w ∈ sortW (tb.map (·.1)), TP.get tb w = some (val tb w) := fun w hw => get_val (get_isSome.mpr ((sortW_perm _).mem_iff.mp hw))
            walk_at "go"
            · omega
            · exact hget _ ‹_›
            · show Fits (sortW _).length
              rw [(sortW_perm _).length_eq, List.length_map]; show _ ≤ _; omega
            · show DV.d (.tuple _) = DV.d (.tuple ((List.map _ _).map _))
              rw [List.map_map]; rfl
          · refine fun b o nb eb => s4 _ _ (gr b o ?_ (g1 b o nb eb))
            exact fun z => (List.mem_cons.mp z).elim (ne_of_none eb hp) nb
/-! smallest -/
theorem sc_smallest : FnScope ["letters", "is_found", "state_of", "queue", "seen", "longer", "word", "letter", "new", "state"] ["letters", "is_found", "state_of"] (defScope s_smallest) := ⟨rfl, rfl, rfl, by decide +kernel, rfl, by decide +kernel, by decide +kernel⟩
theorem c_smallest (T : Txt K mg) (d : ∃ f, DefAt K "smallest" s_smallest f) (hm : Left K mg) : FnIs P w K mg base (L2N.CX P w) 41 "smallest" ["letters", "is_found", "state_of"] (spSm P w K mg base) := by
  refine def_okG d (fun f e => hm _ _ e) sc_smallest (fun _ _ _ _ _ _ us hl => match us, hl with | [_, _, _], _ => rfl) (fun vs H Q E h => ?_) (fun f cdv A outer s H vs Q E hr h => ⟨_, (PSs.nox (pss_cons (ps_par (i := 3) (j := 4) (by rfl) sc_smallest.nd rfl rfl (by decide) rfl rfl (pa_cons (pe_lst (pa_cons (pe_strW []) pa_nil)) (pa_cons (k_nnew (P := P) (w := w) rfl rfl) pa_nil)) (by rfl))
    (pss_cons (ps_if (kt_truth (K := K) rfl (pe_callQ (P := P) (w := w) (K := K) (mg := mg) (base := base) (k := 40) (i := 1) rfl rfl rfl rfl rfl (hr.mono (by decide)) rfl (Or.inl rfl) (pa_cons (pe_strW []) pa_nil)) (by intro _; rfl)) (pss_one (ps_ret (pe_strW []))) pss_nil)
    (pss_cons (ks_nput (P := P) (w := w) rfl rfl (by exact hr.units) (pv 4) (pe_callQ (P := P) (w := w) (K := K) (mg := mg) (base := base) (k := 40) (i := 2) rfl rfl rfl rfl rfl (hr.mono (by decide)) rfl (Or.inl rfl) (pa_cons (pe_strW []) pa_nil)) pe_bl rfl)
    (pss_cons (ps_while PassesOwn.never (pt_cmpR (op_neQ (by exact hr.units)) (pv 3) (pe_lst pa_nil) (nomark _)) (pss_cons (ps_set (i := 5) sc_smallest.nd rfl (Or.inl rfl) (pe_lst pa_nil))
    (pss_cons (ps_for PassesOwn.never rfl (ki_seq (K := K) rfl (pv 3)) (pg_name (i := 6) sc_smallest.nd rfl (Or.inl rfl)) (pss_one (ps_for PassesOwn.never rfl (ki_seq (K := K) rfl (pv 0)) (pg_name (i := 7) sc_smallest.nd rfl (Or.inl rfl)) (pss_cons (ps_set (i := 8) sc_smallest.nd rfl (Or.inl rfl) (pe_op (OpR.k (K := K) (r := rAddU) op_addU rfl) (pv 6) (pv 7)))
    (pss_cons (ps_if (kt_truth (K := K) rfl (pe_callQ (P := P) (w := w) (K := K) (mg := mg) (base := base) (k := 40) (i := 1) rfl rfl rfl rfl rfl (hr.mono (by decide)) rfl (Or.inl rfl) (pa_cons (pv 8) pa_nil)) (by intro _; rfl)) (pss_one (ps_ret (pv 8))) pss_nil)
    (pss_cons (ps_set (i := 9) sc_smallest.nd rfl (Or.inl rfl) (pe_callQ (P := P) (w := w) (K := K) (mg := mg) (base := base) (k := 40) (i := 2) rfl rfl rfl rfl rfl (hr.mono (by decide)) rfl (Or.inl rfl) (pa_cons (pv 8) pa_nil)))
    (pss_one (ps_if (pt_cmpR (k_notInN (P := P) (w := w) rfl rfl (by exact hr.units)) (pv 9) (pv 4) (by rfl)) (pss_cons (ks_nput (P := P) (w := w) rfl rfl (by exact hr.units) (pv 4) (pv 9) pe_bl rfl)
    (pss_one (ps_expr (k_bm (K := K) rfl PySem.F.plainAttrs_list PySem.F.slot_list_append PySem.F.type_list_append mt_append (pv 5) (pa_cons (pv 8) pa_nil))))) pss_nil))))))))
    (pss_one (ps_set (i := 3) sc_smallest.nd rfl (Or.inl rfl) (pv 5))))))
    (pss_one (ps_ret pe_non))))))), ?_⟩)

  · obtain ⟨M, ls, f, g, _, _, _, _, _, _, a, _⟩ := h
    exact Args.len a
  · obtain ⟨M, ls, f, g, okF, okS, found, st, N, lv, a, CF, CS, ok, k⟩ := h
    have S0 : Sta K M H (L2.start ["letters", "is_found", "state_of", "queue", "seen", "longer", "word", "letter", "new", "state"] vs) [.d (encW (ls.map fun c => [c])), .v (.ref f), .v (.ref g), .z, .z, .z, .z, .z, .z, .z] := ⟨lv, env_start a⟩
    have few := ok.few
    have hN := ok.small
    refine q_parN (x := .d (.list [ds []])) S0 (by walk_at "ev") fun p σ1 H1 hp np sh1 s1 S1 m1 => ?_
    have cF : ∀ {M' : List Addr} {H' : Hp} {ρ : List DV} {te : TE} {w : W}, Same H H' → (∀ b ∈ M, b ∈ M') → Same (hid M H) (hid M' H') → ρ[1]? = some (.v (.ref f)) → EvX (cz K M' H') te ρ (.d (ds w)) → okF [.d (ds w)] (.d (.bool (found w))) → EvX (cz K M' H') (tCallQ P ‹World› K mg base 40 1 (tCons te tNil)) ρ (.d (.bool (found w))) :=
      fun s1 hm s2 e1 e2 o => ev_callQ (c := cz K _ _) e1 CF rfl s1 hm s2 (ea_cons e2 ea_nil) o
    have cS : ∀ {M' : List Addr} {H' : Hp} {ρ : List DV} {te : TE} {w : W}, Same H H' → (∀ b ∈ M, b ∈ M') → Same (hid M H) (hid M' H') → ρ[2]? = some (.v (.ref g)) → EvX (cz K M' H') te ρ (.d (ds w)) → okS [.d (ds w)] (.d (NestedKey.tup (st w)).data) → EvX (cz K M' H') (tCallQ P ‹World› K mg base 40 2 (tCons te tNil)) ρ (.d (NestedKey.tup (st w)).data) :=
      fun s1 hm s2 e1 e2 o => ev_callQ (c := cz K _ _) e1 CS rfl s1 hm s2 (ea_cons e2 ea_nil) o
    refine q_when S1 (b := found []) (eb_truB (cF s1 (fun b hb => List.mem_cons_of_mem _ hb) sh1 rfl (by walk_at "ev") ok.f0)) (fun hb H2 s2 S2 => ?_) (fun h0 H2 s2 S2 => ?_)
    · refine s_ret S2 (x := .d (ds [])) (by walk_at "ev") fun v H3 s3 o3 => k v H3 (some []) (s1.trans (s2.trans s3)) ⟨fun c hc => by simp at hc, hb, fun u _ _ => ?_⟩ (by
        obtain rfl := dq_str o3
        exact Dq.str _)
      cases u with
      | nil => exact leL_refl _
      | cons a u => exact .inl (by simp)
    have g0 : Good found ls [] := good_nil h0
    obtain ⟨r, hr⟩ := bfs_ends (found := found) (st := st) (ls := ls) ok.fin (N + 1) (q := [[]]) (V := [[]]) (by simp) (by omega) (by simpa using g0) (by simpa using g0) (by simp)
    have fr : Finds found ls r := bfs_finds ok.asc ok.same h0 hr fun c e => bfs_hit (st := st) (N + 1) (q := [[]]) (V := [[]]) (by simpa using g0) (by simpa using g0) (by simp) (by rw [hr, e])
    have hS0 := ok.s0 [] g0 (by simp)
    refine q_nput (p := p) (kvs := []) (ks := st []) (v := .bool true) S2 (m1.same s2) (by walk_at "ev") (by walk_at "ev") (cS (s1.trans s2) (fun b hb => List.mem_cons_of_mem _ hb) (sh1.trans (Same.hid s2)) rfl (by walk_at "ev") hS0.1) rfl hS0.2 rfl (by simp) fun H3 sh3 g3 S3 m3 => ?_
    have s3 : Same H H3 := gr_new hp (s1.trans s2) g3
    have sh03 : Same (hid M H) (hid (p :: M) H3) := (sh1.trans (Same.hid s2)).trans sh3
    refine q_while S3 (fun m ρ' H' => ∃ (q V : List W) (n : Nat) (a b c d e : DV), ρ' = [.d (encW (ls.map fun c => [c])), .v (.ref f), .v (.ref g), .d (encW q), .v (.ref p), a, b, c, d, e] ∧ bfsW found st ls m q V = some r ∧ MN P ‹World› (p :: M) H' p (kvsV st V) ∧ Same H H' ∧ Same (hid M H) (hid (p :: M) H') ∧
      (∀ l ∈ q, l.length = n ∧ Good found ls l) ∧ (∀ v ∈ V, Good found ls v) ∧ (V.map st).Nodup ∧ (q ≠ [] → n + 1 ≤ V.length)) (N + 1) ⟨[[]], [[]], 0, _, _, _, _, _, rfl, hr, m3, s3, sh03, by simpa using g0, by simpa using g0, by simp, by simp⟩ ?_
    rintro m σ4 ρ4 H4 sw S4 ⟨q, V, n, a4, b4, c4, d4, e4, rfl, hb4, m4, s4, sh4, hq, hV, nd, hn⟩
    refine ⟨!decide (q = []), ?_, fun hb H5 s5 S5 => ?_, fun hb H5 s5 S5 => ?_⟩
    · refine EvB.is (eb_test (ev_op (x := .d (encW q)) (y := .d (encW [])) (by walk_at "ev") ev_nilL (rx_ne (Nat.le_trans (Nat.min_le_left _ _) (depth_w q))))) ?_
      rw [eqv_W]
    · have hq0 : q ≠ [] := by simpa using hb
      cases m with
      | zero => cases hb4
      | succ m =>
        rw [bfsW_succ, if_neg hq0] at hb4
        have hVN : V.length ≤ N := ok.fin V hV nd
        have hn1 := hn hq0
        refine q_newL (xs := []) S5 ea_nil (by simp) fun p2 σ6 H6 hp2 np2 sh6 s6 S6 m6 => ?_
        have m6' := (m4.same s5).more sh6 s6
        have hp2H : H p2 = none := by
          cases e : H p2 with
          | none => rfl
          | some o => rw [s5 _ _ (s4 _ _ e)] at hp2; cases hp2
        have keep : ∀ {cs V' L' : List W}, (∀ c ∈ cs, ∃ u d, Good found ls u ∧ d ∈ ls ∧ c = u ++ [d]) → procW found st cs V [] = .inr (V', L') → (∀ v ∈ V', Good found ls v) ∧ (V'.map st).Nodup ∧ V'.length ≤ N ∧ L'.length ≤ N ∧ (∀ l ∈ L', l ∈ cs ∧ Good found ls l) ∧ V'.length = V.length + L'.length := fun {cs V' L'} hc e => by
          obtain ⟨Mm, e1, e2, e3, e4, e5⟩ := proc_keep hc hV nd e
          have h1 := ok.fin V' e3 e4
          rw [List.nil_append] at e2
          have h2 : V'.length = V.length + L'.length := by rw [e1, e2, List.length_append]
          exact ⟨e3, e4, h1, by omega, fun l hl => ⟨e5 l (by rw [← e2]; exact hl), e3 l (by rw [e1, ← e2]; exact List.mem_append_right _ hl)⟩, h2⟩
        have hcand : ∀ (i : Nat), ∀ c ∈ cands ls (q.take i), ∃ u d, Good found ls u ∧ d ∈ ls ∧ c = u ++ [d] := fun i c hc => by
          obtain ⟨u, hu, d, hd, e⟩ := mem_cands.mp hc
          exact ⟨u, d, (hq u (List.mem_of_mem_take hu)).2, hd, e⟩
        refine q_for (ys := q) (it := fun w => .d (ds w)) (js := [6]) (up := fun w ρ => ρ.set 6 (.d (ds w))) S6 (ei_seq (by walk_at "ev") .lm) (fun y _ ρ' => g_name)
          (fun i ρ' H' => ∃ (b c d e : DV) (V' L' : List W), ρ' = [.d (encW (ls.map fun c => [c])), .v (.ref f), .v (.ref g), .d (encW q), .v (.ref p), .v (.ref p2), b, c, d, e] ∧ procW found st (cands ls (q.take i)) V [] = .inr (V', L') ∧ MN P ‹World› (p2 :: p :: M) H' p (kvsV st V') ∧ ML (p2 :: p :: M) H' p2 (L'.map ds) ∧ Same H H')
          (fun H7 s7 => ⟨_, _, _, _, V, [], rfl, rfl, m6'.same s7, m6.same s7, s4.trans (s5.trans (s6.trans s7))⟩) ?_ ?_
        · rintro i wd σ7 ρ7 H7 H8 Hb hi sHb sm7 ⟨b7, c7, d7, e7, V7, L7, rfl, hp7, m7, l7, s7⟩ s8 S8
          have hwd := hq wd (List.mem_of_getElem? hi)
          refine s_for (ys := ls) (it := fun c => .d (ds [c])) (js := [7]) (up := fun c ρ => ρ.set 7 (.d (ds [c]))) S8 (EvI.is (ei_seq (x := .d (encW (ls.map fun c => [c]))) (by walk_at "ev") .lm) (by rw [List.map_map]; rfl)) (fun y _ ρ' => g_name)
            (fun j ρ' H' => ∃ (c d e : DV) (V' L' : List W), ρ' = [.d (encW (ls.map fun c => [c])), .v (.ref f), .v (.ref g), .d (encW q), .v (.ref p), .v (.ref p2), .d (ds wd), c, d, e] ∧ procW found st (cands ls (q.take i) ++ (ls.take j).map fun c => wd ++ [c]) V [] = .inr (V', L') ∧ MN P ‹World› (p2 :: p :: M) H' p (kvsV st V') ∧ ML (p2 :: p :: M) H' p2 (L'.map ds) ∧ Same H H')
            (fun H9 s9 => ⟨_, _, _, V7, L7, rfl, by rw [List.take_zero, List.map_nil, List.append_nil]; exact hp7, (m7.same s8).same s9, (l7.same s8).same s9, s7.trans (s8.trans s9)⟩) ?_ ?_
          · rintro j c σ9 ρ9 H9 H10 Hb2 hj sHb2 sm9 ⟨c9, d9, e9, V9, L9, rfl, hp9, m9, l9, s9⟩ s10 S10
            have hc : c ∈ ls := List.mem_of_getElem? hj
            have hcs : ∀ x ∈ cands ls (q.take i) ++ (ls.take j).map (fun c => wd ++ [c]), ∃ u d, Good found ls u ∧ d ∈ ls ∧ x = u ++ [d] := fun x hx => by
              rcases List.mem_append.mp hx with hx | hx
              · exact hcand i x hx
              · obtain ⟨d, hd, rfl⟩ := List.mem_map.mp hx
                exact ⟨wd, d, hwd.2, List.mem_of_mem_take hd, rfl⟩
            obtain ⟨k1, k2, k3, k4, k5, k6⟩ := keep hcs hp9
            have hlen : wd.length < N := by omega
            have hm : ∀ b ∈ M, b ∈ p2 :: p :: M := fun b hb => List.mem_cons_of_mem _ (List.mem_cons_of_mem _ hb)
            have shA : ∀ {H' : Hp}, Same H9 H' → Same (hid M H) (hid (p2 :: p :: M) H') := fun s' => ((((sh4.trans (Same.hid s5)).trans sh6).trans sHb).trans ((sm7.trans (Same.hid s8)).trans (sHb2.trans sm9))).trans (Same.hid s')
            refine q_asg S10 (x := .d (ds (wd ++ [c]))) (by walk_at "ev"; show wd.length + 1 ≤ 1000000; omega) fun σ11 H11 s11 S11 => ?_
            refine q_when S11 (b := found (wd ++ [c])) (eb_truB (cF (s9.trans (s10.trans s11)) hm (shA (s10.trans s11)) rfl (by walk_at "ev") (ok.f1 wd c hwd.2 hc hlen))) (fun hf H12 s12 S12 => ?_) (fun hf H12 s12 S12 => ?_)
            · refine s_ret S12 (x := .d (ds (wd ++ [c]))) (by walk_at "ev") fun v H13 s13 o13 => k v H13 r (s9.trans (s10.trans (s11.trans (s12.trans s13)))) fr ?_
              have hall : procW found st (cands ls q) V [] = .inl (wd ++ [c]) := by
                have e1 : ls = ls.take j ++ c :: ls.drop (j + 1) := by
                  obtain ⟨hl, e⟩ := List.getElem?_eq_some_iff.mp hj
                  rw [← e, List.getElem_cons_drop, List.take_append_drop]
                have e2 : q = q.take i ++ wd :: q.drop (i + 1) := by
                  obtain ⟨hl, e⟩ := List.getElem?_eq_some_iff.mp hi
                  rw [← e, List.getElem_cons_drop, List.take_append_drop]
                have e3 : cands ls q = (cands ls (q.take i) ++ (ls.take j).map (fun c => wd ++ [c])) ++ ((wd ++ [c]) :: ((ls.drop (j + 1)).map (fun c => wd ++ [c]) ++ cands ls (q.drop (i + 1)))) := by
                  have e4 : cands ls q = cands ls (q.take i) ++ ((ls.map fun c => wd ++ [c]) ++ cands ls (q.drop (i + 1))) := by
                    conv => lhs; rw [e2]
                    unfold cands
                    rw [List.flatMap_append, List.flatMap_cons]
                  have e5 : (ls.map fun c => wd ++ [c]) = (ls.take j).map (fun c => wd ++ [c]) ++ (wd ++ [c]) :: (ls.drop (j + 1)).map (fun c => wd ++ [c]) := by
                    conv => lhs; rw [e1]
                    rw [List.map_append, List.map_cons]
                  rw [e4, e5]; simp
                rw [e3, procW_app, hp9]
                show procW found st ((wd ++ [c]) :: _) V9 L9 = _
                rw [procW_cons, if_pos hf]
              rw [hall] at hb4
              have hr2 : r = some (wd ++ [c]) := (Option.some.inj hb4).symm
              rw [hr2]
              obtain rfl := dq_str o13
              exact Dq.str _
            · have gw : Good found ls (wd ++ [c]) := hwd.2.snoc hc hf
              obtain ⟨o1, o2⟩ := ok.s0 (wd ++ [c]) gw (by simp; omega)
              refine q_asg S12 (x := .d (NestedKey.tup (st (wd ++ [c]))).data) (cS (s9.trans (s10.trans (s11.trans s12))) hm (shA (s10.trans (s11.trans s12))) rfl (by walk_at "ev") o1) fun σ13 H13 s13 S13 => ?_
              have s913 : Same H9 H13 := s10.trans (s11.trans (s12.trans s13))
              have hstep : procW found st (cands ls (q.take i) ++ (ls.take (j + 1)).map fun c => wd ++ [c]) V [] = procW found st [wd ++ [c]] V9 L9 := by
                rw [map_take_succ _ hj, ← List.append_assoc, procW_app, hp9]
              rw [procW_one, if_neg (by rw [hf]; simp)] at hstep
              refine s_if S13 (b := !decide (st (wd ++ [c]) ∈ V9.map st)) (EvB.is (eb_test (ev_op (by walk_at "ev") (by walk_at "ev") (rx_inN (g := Bool.not) (ks := st (wd ++ [c])) (m9.same s913) rfl rfl o2))) (by rw [kvsV_get])) (fun hs H14 s14 S14 => ?_) (fun hs H14 s14 S14 => ?_)
              · have hs' : st (wd ++ [c]) ∉ V9.map st := by simpa using hs
                rw [if_neg hs'] at hstep
                have s914 := s913.trans s14
                refine q_nput (p := p) (kvs := kvsV st V9) (ks := st (wd ++ [c])) (v := .bool true) S14 (m9.same s914) (by walk_at "ev") (by walk_at "ev") (by walk_at "ev") rfl o2 (kvsV_none hs') (by unfold kvsV; rw [List.length_map]; omega) fun H15 sh15 g15 S15 m15 => ?_
                have l14 := (l9.same s914).gr g15 (fun b hb => by rw [List.mem_singleton.mp hb]; exact List.mem_cons_of_mem _ List.mem_cons_self) (by
                  intro z
                  exact np2 (by rw [List.mem_singleton.mp z]; exact List.mem_cons_self))
                refine s_app S15 l14 (by walk_at "ev") (y := ds (wd ++ [c])) (by walk_at "ev") (by rw [List.length_map]; omega) fun H16 sh16 g16 S16 l16 => ?_
                have m16 := m15.gr g16 (fun b hb => by rw [List.mem_singleton.mp hb]; exact List.mem_cons_self) (by
                  intro z
                  exact np2 (by rw [← List.mem_singleton.mp z]; exact List.mem_cons_self))
                have s16 : Same H H16 := gr_new hp2H (gr_new hp (s9.trans s914) g15) g16
                refine ⟨_, (sm9.trans (Same.hid s914)).trans (sh15.trans sh16), S16, _, _, _, V9 ++ [wd ++ [c]], L9 ++ [wd ++ [c]], rfl, hstep, ?_, ?_, s16⟩
                · have e : kvsV st (V9 ++ [wd ++ [c]]) = kvsV st V9 ++ [(NestedKey.tup (st (wd ++ [c])), .bool true)] := by unfold kvsV; rw [List.map_append]; rfl
                  rw [e]; exact m16
                · rw [List.map_append]; exact l16
              · have hs' : st (wd ++ [c]) ∈ V9.map st := by simpa using hs
                rw [if_pos hs'] at hstep
                have s914 := s913.trans s14
                exact ⟨_, sm9.trans (Same.hid s914), S14, _, _, _, V9, L9, rfl, hstep, m9.same s914, l9.same s914, s9.trans s914⟩
          · rintro σ9 ρ9 H9 sm9 S9 ⟨c9, d9, e9, V9, L9, rfl, hp9, m9, l9, s9⟩
            refine ⟨_, (sm7.trans (Same.hid s8)).trans sm9, S9, _, _, _, _, V9, L9, rfl, ?_, m9, l9, s9⟩
            rw [List.take_length] at hp9
            rw [cands_take_succ hi]; exact hp9
        · rintro σ7 ρ7 H7 sm7 S7 ⟨b7, c7, d7, e7, V7, L7, rfl, hp7, m7, l7, s7⟩
          rw [List.take_length] at hp7
          have hcq := hcand q.length
          rw [List.take_length] at hcq
          obtain ⟨k1, k2, k3, k4, k5, k6⟩ := keep hcq hp7
          rw [hp7] at hb4
          have S8 := unhideL (i := 5) S7 np2 l7 rfl
          refine s_asg S8 (x := .d (encW L7)) (by walk_at "ev") fun σ9 H9 s9 S9 => ?_
          refine ⟨m, by omega, _, ?_, S9, L7, V7, n + 1, _, _, _, _, _, rfl, hb4, ?_, s7.trans s9, ?_, fun l hl => ?_, k1, k2, fun hL => ?_⟩
          · exact ((sw.trans (Same.hid s5)).trans (sh6.trans sm7)).trans (hid_cons.trans (Same.hid s9))
          · exact (m7.less (fun b hb => List.mem_cons_of_mem _ hb) List.mem_cons_self).same s9
          · exact ((sh4.trans (Same.hid s5)).trans (sh6.trans sm7)).trans (hid_cons.trans (Same.hid s9))
          · obtain ⟨h1, h2⟩ := k5 l hl
            obtain ⟨u, hu, d, _, e⟩ := mem_cands.mp h1
            exact ⟨by rw [e, List.length_append, (hq u hu).1]; rfl, h2⟩
          · have := List.length_pos_iff.mpr hL
            omega
    · have hq0 : q = [] := by simpa using hb
      refine s_ret S5 (x := .d .none) (by walk_at "ev") fun v H6 s6 o6 => k v H6 r (s4.trans (s5.trans s6)) fr ?_
      cases m with
      | zero => cases hb4
      | succ m =>
        rw [bfsW_succ, if_pos hq0] at hb4
        have hr2 : r = none := (Option.some.inj hb4).symm
        rw [hr2]
        obtain rfl := dq_none o6
        exact Dq.non
/-! is_open -/
inductive Ok_is_open : List DV → DV → Prop
  | mk {t : Tb} {b : W} (h : Fits b.length) (h3 : ∀ p ∈ t, p.1.length ≤ 1000) (h4 : Fits t.length) : Ok_is_open [.k (encT t), .d (ds b)] (.d (.bool (isOpen t b)))
theorem sc_is_open : FnScope ["table", "buffer", "key"] ["table", "buffer"] (defScope s_is_open) := ⟨rfl, rfl, rfl, by decide +kernel, rfl, by decide +kernel, by decide +kernel⟩
theorem c_is_open (T : Txt K mg) (d : ∃ f, DefAt K "is_open" s_is_open f) (hm : Left K mg) : FnIs P w K mg base (L2N.CX P w) 1 "is_open" ["table", "buffer"] (spP K Ok_is_open) := by
  refine def_ok d (fun f e => hm _ _ e) sc_is_open (fun _ _ _ _ _ _ us hl => match us, hl with | [_, _], _ => rfl) (fun xs h => ?_) (fun f cdv A outer s H vs E hr => ⟨_, (PSs.nox (pss_one (ps_ret (pe_or (pe_cmpR (op_eqQ (by exact hr.units)) (pv 1) (pe_strW []) (nomark _)) (pe_one (pe_callB (CallR.k (K := K) (r := rAny) (cr_any rfl) rfl) (by rfl) T.b_any (by decide +kernel) (pa_cons (pe_lock (pe_lc (own := [("key", 2)]) rfl sc_is_open.nd  (pi_keys (pv 0)) (blkOk_by (N := ["table", "buffer", "key"]) (sc := defScope s_is_open) (by decide +kernel)) (fun _ _ _ _ _ => (pg_name (i := 2) sc_is_open.nd rfl (Or.inl rfl))) (fun _ _ _ _ _ => pts_nil) (fun _ _ _ _ _ => (pe_and (pe_cmpR (op_gtU (by exact hr.units)) (pe_callB (CallR.k (K := K) (r := rLenU) call_lenU rfl) (by rfl) T.b_len (by decide +kernel) (pa_cons (pv 2) pa_nil)) (pe_callB (CallR.k (K := K) (r := rLenU) call_lenU rfl) (by rfl) T.b_len (by decide +kernel) (pa_cons (pv 1) pa_nil)) (nomark _)) (pe_one (pe_startsW (pv 2) (pv 1))))))) pa_nil))))))), fun M xs Q S h => ?_⟩)
  · rcases h with ⟨_, ⟨⟩⟩ | ⟨_, ⟨⟩⟩ <;> rfl
  · rcases h with ⟨y, hy, k⟩ | ⟨_, ⟨⟩, _⟩
    cases hy with
    | mk h h3 h4 =>
      rename_i t b
      refine s_ret (ρ := [.k (encT t), .d (ds b), .z]) S ?_ k
      refine EvX.is (ev_orV (a := decide (b = [])) (by walk_at "ev") fun _ => ev_cb (xs := [.d (.list (t.map fun p => .bool (decide ((b.length : Int) < (p.1.length : Int)) && starts p.1 b)))]) (ea_cons (ev_lockK (i := 0) (kvs := encT t) rfl rfl fun d od kv H1 dM hd hk => ?_) ea_nil) rc_any) ?_
      · refine ev_lcA (its := t) (it := fun p => .d (ds p.1)) (js := [2]) (EvI.is (ei_keysL rfl rfl dM hd hk) (by rw [List.map_map]; rfl)) (fun x _ => g_name) (.mk rfl) (fun q x hx => ?_) h4
        have hx3 := h3 x hx
        walk_at "ev"
        · show _ ≤ _; omega
        · exact h
      · unfold isOpen
        have e : (fun p : W × W => decide ((b.length : Int) < (p.1.length : Int)) && starts p.1 b) = fun p => decide (b.length < p.1.length) && starts p.1 b := by
          funext p; congr 1; simp
        rw [e]
local macro_rules | `(tactic| walk_at "cl") => `(tactic| with_reducible apply Ok_is_open.mk)
/-! feed -/
inductive Ok_feed : List DV → DV → Prop
  | mk {t : Tb} {b x r o : W} (h : (b ++ x).length ≤ 25000) (h3 : ∀ p ∈ t, p.1.length ≤ 1000 ∧ p.2.length ≤ 30) (h4 : Fits t.length) (e : feedO t (b ++ x) = some (r, o)) : Ok_feed [.k (encT t), .d (ds b), .d (ds x)] (.d (.tuple [ds r, ds o]))
theorem sc_feed : FnScope ["table", "buffer", "text", "output", "key"] ["table", "buffer", "text"] (defScope s_feed) := ⟨rfl, rfl, rfl, by decide +kernel, rfl, by decide +kernel, by decide +kernel⟩
theorem c_feed (T : Txt K mg) (d : ∃ f, DefAt K "feed" s_feed f) (hm : Left K mg) (c_is_open : FnIs P w K mg base (L2N.CX P w) 1 "is_open" ["table", "buffer"] (spP K Ok_is_open)) (c_longest : FnIs P w K mg base (L2N.CX P w) 1 "longest" ["table", "text"] (spP K Ok_longest)) : FnIs P w K mg base (L2N.CX P w) 2 "feed" ["table", "buffer", "text"] (spP K Ok_feed) := by
  refine def_ok d (fun f e => hm _ _ e) sc_feed (fun _ _ _ _ _ _ us hl => match us, hl with | [_, _, _], _ => rfl) (fun xs h => ?_) (fun f cdv A outer s H vs E hr => ⟨_, (PSs.nox (pss_cons (ps_par (i := 1) (j := 3) (by rfl) sc_feed.nd rfl rfl (by decide) rfl rfl (pa_cons (pe_op (OpR.k (K := K) (r := rAddU) op_addU rfl) (pv 1) (pv 2)) (pa_cons (pe_strW []) pa_nil)) (by rfl))
    (pss_cons (ps_while PassesOwn.never (pt_not (kt_truth (K := K) rfl (pe_callF c_is_open (hr.mono (by decide)) passN (pa_cons (pv 0) (pa_cons (pv 1) pa_nil))) (by intro _; rfl))) (pss_cons (ps_set (i := 4) sc_feed.nd rfl (Or.inl rfl) (pe_callF c_longest (hr.mono (by decide)) passN (pa_cons (pv 0) (pa_cons (pv 1) pa_nil))))
    (pss_cons (ps_aug (i := 3) sc_feed.nd rfl (Or.inl rfl) (k_sub (K := K) (by exact hr.units) rfl (pv 0) (pv 4) (by intro _ _; rfl)) ip_addU)
    (pss_one (ps_set (i := 1) sc_feed.nd rfl (Or.inl rfl) (pe_slice (SlR.k (K := K) (r := rSlU) sl_U rfl) (pv 1) (po_some (pe_callB (CallR.k (K := K) (r := rLenU) call_lenU rfl) (by rfl) T.b_len (by decide +kernel) (pa_cons (pv 4) pa_nil))) po_none))))))
    (pss_one (ps_ret (pe_tupF (pa_cons (pv 1) (pa_cons (pv 3) pa_nil)))))))), fun M xs Q S h => ?_⟩)
  · rcases h with ⟨_, ⟨⟩⟩ | ⟨_, ⟨⟩⟩ <;> rfl
  · rcases h with ⟨y, hy, k⟩ | ⟨_, ⟨⟩, _⟩
    cases hy with
    | mk h h3 h4 e =>
      rename_i t b x r o
      have S0 : Sta K M H _ [.k (encT t), .d (ds b), .d (ds x), .z, .z] := S
      rw [List.length_append] at h
      refine q_par S0 (x := .d (ds (b ++ x))) (y := .d (ds [])) (by walk_at "ev"; omega) fun σ1 H1 s1 S1 => ?_
      refine q_while S1 (fun m ρ' H' => ∃ (b' o' : W) (e5 : DV), ρ' = [.k (encT t), .d (ds b'), .d (ds x), .d (ds o'), e5] ∧ m = b'.length ∧ Same H H' ∧ (feedO t b').map (fun q => (q.1, o' ++ q.2)) = some (r, o) ∧ b'.length ≤ 25000 ∧ o'.length + 30 * b'.length ≤ 750000) (b ++ x).length
        ⟨b ++ x, [], _, rfl, rfl, s1, by rw [e]; rfl, by rw [List.length_append]; omega, by rw [List.length_append]; simp; omega⟩ ?_
      rintro m σ2 ρ2 H2 sw S2 ⟨b', o', e5, rfl, rfl, s2, ef, hb, ho⟩
      refine ⟨!isOpen t b', EvB.is (eb_not (eb_truB (by walk_at "ev"; exact (show _ ≤ _ by omega); exact fun p hp => (h3 p hp).1; exact h4))) rfl, fun hc H3 s3 S3 => ?_, fun hc H3 s3 S3 => ?_⟩
      · have hop : isOpen t b' = false := by simpa using hc
        cases el : longest t b' with
        | none => rw [feedO_none hop el] at ef; cases ef
        | some key =>
          have l := longest_len el
          have hk3 := val_le (fun p hp => (h3 p hp).2) key
          refine q_asg S3 (x := .d (ds key)) (EvX.is (by walk_at "ev"; exact (show _ ≤ _ by omega)) (by rw [el])) fun σ4 H4 s4 S4 => ?_
          refine q_augS (w := o') (v := val t key) S4 rfl (ev_sub (by walk_at "ev") (by walk_at "ev") (SubX.tbl (get_val l.2.2.2.2))) (by omega) fun σ5 H5 s5 S5 => ?_
          refine s_asg S5 (x := .d (ds (b'.drop key.length))) ?_ fun σ6 H6 s6 S6 => ?_
          · refine EvX.is (ev_sl (lo := some (key.length : Int)) (hi := none) (by walk_at "ev") (eo_some (ev_cb (xs := [.d (ds key)]) (by walk_at "ev") (rc_lenS (by omega)))) eo_none (.s (by omega))) ?_
            rw [cut_drop _ _ (by omega)]; rfl
          refine ⟨(b'.drop key.length).length, by rw [List.length_drop]; omega, _, (sw.trans (Same.hid (s3.trans s4))).trans (Same.hid (s5.trans s6)), S6, b'.drop key.length, o' ++ val t key, _, rfl, rfl, (s2.trans (s3.trans s4)).trans (s5.trans s6), ?_, by rw [List.length_drop]; omega, by rw [List.length_drop, List.length_append]; omega⟩
          rw [feedO_some hop el, Option.map_map] at ef
          rw [← ef]
          congr 1
          funext q
          simp
      · have hop : isOpen t b' = true := by simpa using hc
        rw [feedO_open hop] at ef
        have e1 : b' = r ∧ o' = o := by
          have := Option.some.inj ef
          simpa using this
        obtain ⟨rfl, rfl⟩ := e1
        exact s_ret S3 (x := .d (.tuple [ds b', ds o'])) (by walk_at "ev") fun v H4 s4 o4 => k v H4 (s2.trans (s3.trans s4)) o4
local macro_rules | `(tactic| walk_at "cl") => `(tactic| with_reducible apply Ok_feed.mk)
/-! run -/
inductive Ok_run : List DV → DV → Prop
  | mk {A : List Sc} {w x : W} {bs : List W} (h : ∀ s ∈ A, Scheme s) (hf : A.length ≤ 2) (hw : w.length ≤ 2600) (e : runO A w = some (bs, x)) : Ok_run [.ks (A.map fun s => encT (writeT s)), .d (ds w)] (.d (.tuple [.tuple (bs.map ds), ds x]))
theorem sc_run : FnScope ["tables", "word", "text", "buffers", "table", "buffer"] ["tables", "word"] (defScope s_run) := ⟨rfl, rfl, rfl, by decide +kernel, rfl, by decide +kernel, by decide +kernel⟩
theorem c_run (T : Txt K mg) (d : ∃ f, DefAt K "run" s_run f) (hm : Left K mg) (c_feed : FnIs P w K mg base (L2N.CX P w) 2 "feed" ["table", "buffer", "text"] (spP K Ok_feed)) : FnIs P w K mg base (L2N.CX P w) 3 "run" ["tables", "word"] (spP K Ok_run) := by
  refine def_ok d (fun f e => hm _ _ e) sc_run (fun _ _ _ _ _ _ us hl => match us, hl with | [_, _], _ => rfl) (fun xs h => ?_) (fun f cdv A outer s H vs E hr => ⟨_, (PSs.nox (pss_cons (ps_par (i := 2) (j := 3) (by rfl) sc_run.nd rfl rfl (by decide) rfl rfl (pa_cons (pv 1) (pa_cons (pe_lst pa_nil) pa_nil)) (by rfl))
    (pss_cons (ps_for PassesOwn.never rfl (ki_seq (K := K) rfl (pv 0)) (pg_name (i := 4) sc_run.nd rfl (Or.inl rfl)) (pss_cons (ps_asg (pe_callF c_feed (hr.mono (by decide)) passN (pa_cons (pv 4) (pa_cons (pe_strW []) (pa_cons (pv 2) pa_nil)))) (kg_tup (K := K) (n := 2) rfl rfl (pgs_cons (pg_name (i := 5) sc_run.nd rfl (Or.inl rfl)) (pgs_cons (pg_name (i := 2) sc_run.nd rfl (Or.inl rfl)) pgs_nil))))
    (pss_one (ps_expr (k_bm (K := K) rfl PySem.F.plainAttrs_list PySem.F.slot_list_append PySem.F.type_list_append mt_append (pv 3) (pa_cons (pv 5) pa_nil))))))
    (pss_one (ps_ret (pe_tupF (pa_cons (pe_callTy (CallR.k (K := K) (r := rTupOf) call_tupleF rfl) (by rfl) T.b_tuple (by decide +kernel) (pa_cons (pv 3) pa_nil)) (pa_cons (pv 2) pa_nil)))))))), fun M xs Q S h => ?_⟩)
  · rcases h with ⟨_, ⟨⟩⟩ | ⟨_, ⟨⟩⟩ <;> rfl
  · rcases h with ⟨y, hy, k⟩ | ⟨_, ⟨⟩, _⟩
    cases hy with
    | mk h hf hw e =>
      rename_i A w x bs
      have S0 : Sta K M H _ [.ks (A.map fun s => encT (writeT s)), .d (ds w), .z, .z, .z, .z] := S
      refine q_parL S0 (x := .d (ds w)) (by walk_at "ev") fun p σ1 H1 hp np sh1 s1 S1 m1 => ?_
      refine q_for (ys := A) (it := fun s => .k (encT (writeT s))) (js := [4]) (up := fun s ρ => ρ.set 4 (.k (encT (writeT s)))) S1 (EvI.is (ei_ks (ev_vks rfl)) (by rw [List.map_map]; rfl)) (fun y hy ρ' => g_nameK)
        (fun i ρ' H' => ∃ (t : W) (cs : List W) (a b : DV), ρ' = [.ks (A.map fun s => encT (writeT s)), .d (ds w), .d (ds t), .v (.ref p), a, b] ∧ ML (p :: M) H' p (cs.map ds) ∧ Gr [p] H1 H' ∧ cs.length = i ∧ t.length ≤ w.length * 3 ^ i ∧ (runO (A.drop i) t).map (fun q => (cs ++ q.1, q.2)) = some (bs, x))
        (fun H2 s2 => ⟨w, [], _, _, rfl, m1.same s2, Same.gr s2, rfl, by simp, by rw [List.drop_zero, e]; rfl⟩) ?_ ?_
      · rintro i s σ' ρ' H' H2 Hb hi sb sm ⟨t, cs, a, b, rfl, m, g, hc, ht, er⟩ s2 S2
        obtain ⟨hlt, hget⟩ := List.getElem?_eq_some_iff.mp hi
        have hs := h s (List.mem_of_getElem? hi)
        have h10 := hs.ten
        have hdrop : A.drop i = s :: A.drop (i + 1) := by rw [← hget]; exact List.drop_eq_getElem_cons hlt
        rw [hdrop] at er
        have ht2 : t.length ≤ 7800 := by
          have : 3 ^ i ≤ 3 := by
            have : i ≤ 1 := by omega
            exact Nat.le_trans (Nat.pow_le_pow_right (by decide) this) (by decide)
          have := Nat.mul_le_mul_left w.length this
          omega
        unfold runO at er
        cases ef : feedO s t with
        | none => rw [ef] at er; cases er
        | some q =>
          obtain ⟨b1, o1⟩ := q
          rw [ef] at er
          have er : ((runO (A.drop (i + 1)) o1).map fun q => (b1 :: q.1, q.2)).map (fun q => (cs ++ q.1, q.2)) = some (bs, x) := er
          have ef' : feedO (writeT s) ([] ++ t) = some (b1, o1) := by rw [hs.writeT]; exact ef
          have fl := feedO_len (m := 3) (fun p hp => (hs.tgt1 p hp).2) _ (Nat.le_refl _) ef
          have hw3 : ∀ p ∈ writeT s, p.1.length ≤ 1000 ∧ p.2.length ≤ 30 := fun p hp => by
            rw [hs.writeT] at hp
            have := hs.src1 p hp; have := hs.tgt1 p hp; omega
          have hwl : (writeT s).length ≤ 10 := by rw [hs.writeT]; exact h10
          refine q_asgG (y := .tuple [ds b1, ds o1]) S2 (ev_call (xs := [.k (encT (writeT s)), .d (ds []), .d (ds t)]) (ea_cons (ev_vk rfl) (ea_cons (by walk_at "ev") (ea_cons (by walk_at "ev") ea_nil))) (.mk (by rw [List.nil_append]; omega) hw3 (by show _ ≤ _; omega) ef')) (g_tup (xs := [ds b1, ds o1]) (by walk_at "ev")) fun σ3 H3 s3 S3 => ?_
          refine s_app S3 (m.same (s2.trans s3)) (y := ds b1) (by walk_at "ev") (by walk_at "ev") (by rw [List.length_map]; omega) fun H4 sh4 g4 S4 m4 => ?_
          refine ⟨_, sm.trans ((Same.hid (s2.trans s3)).trans sh4), S4, o1, cs ++ [b1], _, _, rfl, by rw [List.map_append]; exact m4, (g.trans (Same.gr (s2.trans s3))).trans g4, by rw [List.length_append, hc]; rfl, ?_, ?_⟩
          · rw [Nat.pow_succ, ← Nat.mul_assoc]
            exact Nat.le_trans fl.2 (Nat.mul_le_mul_right _ ht)
          · rw [← er, Option.map_map]
            congr 1
            funext q
            simp
      · rintro σ' ρ' H' sm2 S2 ⟨t, cs, a, b, rfl, m, g, hc, ht, er⟩
        rw [List.drop_length] at er
        have er : some (cs ++ [], t) = some (bs, x) := er
        rw [List.append_nil] at er
        cases er
        have S3 := unhideL (i := 3) S2 np m rfl
        refine s_ret S3 (x := .d (.tuple [.tuple (bs.map ds), ds x])) (ev_tupD (xs := [.tuple (bs.map ds), ds x]) (ead_cons (ev_cb (xs := [.d (.list (bs.map ds))]) (by walk_at "ev") rc_tupL) (ead_cons (by walk_at "ev") ead_nil)) (by show 2 ≤ 1000; decide)) fun v H3 s3 o3 => k v H3 ((gr_new hp s1 g).trans s3) o3
local macro_rules | `(tactic| walk_at "cl") => `(tactic| with_reducible apply Ok_run.mk)
/-! finish -/
inductive Ok_finish : List DV → DV → Prop
  | mk {A : List Sc} {w y : W} (h : ∀ s ∈ A, Scheme s) (hf : A.length ≤ 2) (hw : w.length ≤ 2600) (e : finishO A w = some y) : Ok_finish [.ks (A.map fun s => encT (writeT s)), .d (ds w)] (.d (ds y))
theorem sc_finish : FnScope ["tables", "word", "table"] ["tables", "word"] (defScope s_finish) := ⟨rfl, rfl, rfl, by decide +kernel, rfl, by decide +kernel, by decide +kernel⟩
theorem c_finish (T : Txt K mg) (d : ∃ f, DefAt K "finish" s_finish f) (hm : Left K mg) (c_mapped : FnIs P w K mg base (L2N.CX P w) 3 "mapped" ["table", "text"] (spP K Ok_mapped)) : FnIs P w K mg base (L2N.CX P w) 4 "finish" ["tables", "word"] (spP K Ok_finish) := by
  refine def_ok d (fun f e => hm _ _ e) sc_finish (fun _ _ _ _ _ _ us hl => match us, hl with | [_, _], _ => rfl) (fun xs h => ?_) (fun f cdv A outer s H vs E hr => ⟨_, (PSs.nox (pss_cons (ps_for PassesOwn.never rfl (ki_seq (K := K) rfl (pv 0)) (pg_name (i := 2) sc_finish.nd rfl (Or.inl rfl)) (pss_one (ps_set (i := 1) sc_finish.nd rfl (Or.inl rfl) (pe_callF c_mapped (hr.mono (by decide)) passN (pa_cons (pv 2) (pa_cons (pv 1) pa_nil))))))
    (pss_one (ps_ret (pv 1))))), fun M xs Q S h => ?_⟩)
  · rcases h with ⟨_, ⟨⟩⟩ | ⟨_, ⟨⟩⟩ <;> rfl
  · rcases h with ⟨y, hy, k⟩ | ⟨_, ⟨⟩, _⟩
    cases hy with
    | mk h hf hw e =>
      rename_i A w y
      have S0 : Sta K M H _ [.ks (A.map fun s => encT (writeT s)), .d (ds w), .z] := S
      refine q_for (ys := A) (it := fun s => .k (encT (writeT s))) (js := [2]) (up := fun s ρ => ρ.set 2 (.k (encT (writeT s)))) S0 (EvI.is (ei_ks (ev_vks rfl)) (by rw [List.map_map]; rfl)) (fun y hy ρ' => g_nameK)
        (fun i ρ' H' => ∃ (t : W) (a : DV), ρ' = [.ks (A.map fun s => encT (writeT s)), .d (ds t), a] ∧ Same H H' ∧ t.length ≤ w.length * 3 ^ i ∧ finishO (A.drop i) t = some y)
        (fun H2 s2 => ⟨w, _, rfl, s2, by simp, e⟩) ?_ ?_
      · rintro i s σ' ρ' H' H2 Hb hi sb sm ⟨t, a, rfl, sa, ht, er⟩ s2 S2
        obtain ⟨hlt, hget⟩ := List.getElem?_eq_some_iff.mp hi
        have hs := h s (List.mem_of_getElem? hi)
        have hdrop : A.drop i = s :: A.drop (i + 1) := by rw [← hget]; exact List.drop_eq_getElem_cons hlt
        rw [hdrop] at er
        have ht2 : t.length ≤ 7800 := by
          have : 3 ^ i ≤ 3 := by
            have : i ≤ 1 := by omega
            exact Nat.le_trans (Nat.pow_le_pow_right (by decide) this) (by decide)
          have := Nat.mul_le_mul_left w.length this
          omega
        obtain ⟨y1, e1, e2⟩ := Option.bind_eq_some_iff.mp (show (mapped s t).bind (finishO (A.drop (i + 1))) = some y from er)
        have l := mapped_le (b := 3) (fun p hp => (hs.tgt1 p hp).2) e1
        refine s_asg S2 (x := .d (ds y1)) (EvX.is (ev_call (xs := [.k (encT (writeT s)), .d (ds t)]) (ea_cons (ev_vk rfl) (ea_cons (by walk_at "ev") ea_nil)) (.mk (by omega) fun p hp => by rw [hs.writeT] at hp; have := hs.tgt1 p hp; omega)) (by rw [hs.writeT, e1])) fun σ3 H3 s3 S3 => ?_
        refine ⟨_, sm.trans (Same.hid (s2.trans s3)), S3, y1, _, rfl, sa.trans (s2.trans s3), ?_, e2⟩
        rw [Nat.pow_succ, ← Nat.mul_assoc]
        exact Nat.le_trans l (Nat.mul_le_mul_right _ ht)
      · rintro σ' ρ' H' sm2 S2 ⟨t, a, rfl, sa, ht, er⟩
        rw [List.drop_length] at er
        cases er
        exact s_ret S2 (x := .d (ds y)) (by walk_at "ev") fun v H3 s3 o3 => k v H3 (sa.trans s3) o3
local macro_rules | `(tactic| walk_at "cl") => `(tactic| with_reducible apply Ok_finish.mk)
/-! is_chain -/
inductive Ok_is_chain : List DV → DV → Prop
  | mk {v : D} (h : small v) : Ok_is_chain [.d v] (.d (.bool (isChain v)))
theorem sc_is_chain : FnScope ["value", "one", "known", "source", "target", "char"] ["value"] (defScope s_is_chain) := ⟨rfl, rfl, rfl, by decide +kernel, rfl, by decide +kernel, by decide +kernel⟩
theorem c_is_chain (T : Txt K mg) (d : ∃ f, DefAt K "is_chain" s_is_chain f) (hm : Left K mg) (c_letters_of : FnIs P w K mg base (L2N.CX P w) 1 "letters_of" ["scheme"] (spP K Ok_letters_of)) (c_is_scheme : FnIs P w K mg base (L2N.CX P w) 3 "is_scheme" ["value"] (spP K Ok_is_scheme)) : FnIs P w K mg base (L2N.CX P w) 4 "is_chain" ["value"] (spP K Ok_is_chain) := by
  refine def_ok d (fun f e => hm _ _ e) sc_is_chain (fun _ _ _ _ _ _ us hl => match us, hl with | [_], _ => rfl) (fun xs h => ?_) (fun f cdv A outer s H vs E hr => ⟨_, (PSs.nox (pss_cons (ps_if (PW.pt (pw_or (pt_not (kt_truth (K := K) rfl (pe_callB call_isaQ (by rfl) T.b_isinstance (by decide +kernel) (pa_cons (pv 0) (pa_cons (pe_bltn (v := .ty "tuple") (by rfl) T.b_tuple (by decide +kernel) rfl) pa_nil))) (by intro _; rfl))) (pw_or (pt_cmpR (op_gtU (by exact hr.units)) (pe_callB (CallR.k (K := K) (r := rLenU) call_lenU rfl) (by rfl) T.b_len (by decide +kernel) (pa_cons (pv 0) pa_nil)) pe_int (nomark _)) (pw_or1 (pt_not (kt_truth (K := K) rfl (pe_callB (CallR.k (K := K) (r := rAll) (cr_all rfl) rfl) (by rfl) T.b_all (by decide +kernel) (pa_cons (pe_lc (own := [("one", 1)]) rfl sc_is_chain.nd  (ki_seq (K := K) rfl (pv 0)) (blkOk_by (N := ["value", "one", "known", "source", "target", "char"]) (sc := defScope s_is_chain) (by decide +kernel)) (fun _ _ _ _ _ => (pg_name (i := 1) sc_is_chain.nd rfl (Or.inl rfl))) (fun _ _ _ _ _ => pts_nil) (fun _ _ _ _ _ => (pe_callF c_is_scheme (hr.mono (by decide)) passN (pa_cons (pv 1) pa_nil)))) pa_nil)) (by intro _; rfl))))))) (pss_one (ps_ret pe_bl)) pss_nil)
    (pss_cons (ps_if (pt_cmpR (op_ltU (by exact hr.units)) (pe_callB (CallR.k (K := K) (r := rLenU) call_lenU rfl) (by rfl) T.b_len (by decide +kernel) (pa_cons (pv 0) pa_nil)) pe_int (nomark _)) (pss_one (ps_ret pe_bl)) pss_nil)
    (pss_cons (ps_set (i := 2) sc_is_chain.nd rfl (Or.inr rfl) (pe_callF c_letters_of (hr.mono (by decide)) passN (pa_cons (k_sub (K := K) (by exact hr.units) rfl (pv 0) pe_int (by intro _ _; rfl)) pa_nil)))
    (pss_one (ps_ret (pe_callB (CallR.k (K := K) (r := rAll) (cr_all rfl) rfl) (by rfl) T.b_all (by decide +kernel) (pa_cons (pe_lc2 (own := [("source", 3), ("target", 4), ("char", 5)]) (vs1 := [5]) rfl sc_is_chain.nd  (ki_seq (K := K) rfl (k_sub (K := K) (by exact hr.units) rfl (pv 0) pe_int (by intro _ _; rfl))) (blkOk_by (N := ["value", "one", "known", "source", "target", "char"]) (sc := defScope s_is_chain) (by decide +kernel)) (by decide) (fun _ _ _ _ _ => (kg_tup (K := K) (n := 2) rfl rfl (pgs_cons (pg_name (i := 3) sc_is_chain.nd rfl (Or.inl rfl)) (pgs_cons (pg_name (i := 4) sc_is_chain.nd rfl (Or.inl rfl)) pgs_nil)))) (fun _ _ _ _ _ => pts_nil) (fun _ _ _ _ _ => (ki_seq (K := K) rfl (pv 4))) (fun _ _ _ _ _ => (pg_name (i := 5) sc_is_chain.nd rfl (Or.inl rfl))) (fun _ _ _ _ _ => pts_nil) (fun _ _ _ _ _ => (pe_cmpR (op_inU (by exact hr.units)) (pv 5) (pv 2) (by rfl)))) pa_nil)))))))), fun M xs Q S h => ?_⟩)
  · rcases h with ⟨_, ⟨⟩⟩ | ⟨_, ⟨⟩⟩ <;> rfl
  · rcases h with ⟨y, hy, k⟩ | ⟨_, ⟨⟩, _⟩
    cases hy with
    | mk h =>
      rename_i v
      have S0 : Sta K M H _ [.d v, .z, .z, .z, .z, .z] := S
      cases v with
      | tuple xs =>
        refine q_when S0 (b := !(decide ((xs.length : Int) ≤ 2) && xs.all isScheme)) ?_ (fun hb H1 s1 S1 => ?_) (fun hb H1 s1 S1 => ?_)
        · walk_at "go"
          · exact smallAll_mem h.2 ‹_›
          · exact h.1
          · have e : decide ((2 : Int) < (xs.length : Int)) = !decide ((xs.length : Int) ≤ 2) := by
              rw [← decide_not]; exact decide_eq_decide.mpr (by omega)
            simp [PyData.isTuple, Bool.not_and, e]
        · have e : isChain (.tuple xs) = false := by
            rw [Bool.not_eq_true'] at hb
            show (decide _ && _ && _) = false
            rw [hb]; rfl
          rw [e] at k
          exact s_ret S1 (x := .d (.bool false)) (by walk_at "ev") fun v H2 s2 => k v H2 (s1.trans s2)
        · rw [Bool.not_eq_false'] at hb
          have hb' := hb
          rw [Bool.and_eq_true, decide_eq_true_eq] at hb
          obtain ⟨A, rfl, hA⟩ := all_schemes hb.2
          have hl : A.length ≤ 2 := by have := hb.1; rw [List.length_map] at this; omega
          refine q_when S1 (b := decide ((A.length : Int) < 2)) ?_ (fun hb2 H2 s2 S2 => ?_) (fun hb2 H2 s2 S2 => ?_)
          · exact EvB.is (eb_test (ev_op (x := .d (.int ((A.map encS).length : Nat))) (y := .d (.int 2)) (ev_cb (xs := [.d (.tuple (A.map encS))]) (by walk_at "ev") rc_lenT) (by walk_at "ev") rx_ltI)) (by rw [List.length_map])
          · have hl2 : A.length < 2 := by have := of_decide_eq_true hb2; omega
            have e : isChain (encC A) = true := isChain_enc ⟨hA, hl, fun s1 s2 e => by rw [e] at hl2; simp at hl2⟩
            rw [e] at k
            exact s_ret S2 (x := .d (.bool true)) (by walk_at "ev") fun v H3 s3 => k v H3 (s1.trans (s2.trans s3))
          · have hl2 : A.length = 2 := by have := of_decide_eq_false hb2; omega
            obtain ⟨a1, a2, rfl⟩ : ∃ a b, A = [a, b] := by
              match A, hl2 with
              | [a, b], _ => exact ⟨a, b, rfl⟩
            have h1 := hA a1 List.mem_cons_self
            have h2 := hA a2 (List.mem_cons_of_mem _ List.mem_cons_self)
            have h10 := h1.ten
            have e : isChain (encC [a1, a2]) = fits2 a1 a2 := by
              show (decide _ && _ && fits2 (decS (encS a1)) (decS (encS a2))) = _
              rw [hb', decS_enc, decS_enc]; rfl
            rw [e] at k
            refine q_asg S2 (x := .d (encW (letters a2))) (ev_call (xs := [.d (encS a2)]) (ea_cons (ev_sub (x := .d (encC [a1, a2])) (y := .d (.int 1)) (by walk_at "ev") (by walk_at "ev") (.t rfl)) ea_nil) (.mk h2)) fun σ3 H3 s3 S3 => ?_
            refine s_ret S3 (x := .d (.bool (fits2 a1 a2))) ?_ fun v H4 s4 => k v H4 (s1.trans (s2.trans (s3.trans s4)))
            refine EvX.is (ev_cb (xs := [.d (.list (a1.flatMap fun p => p.2.map fun c => .bool (decide ([c] ∈ letters a2))))]) (ea_cons ?_ ea_nil) rc_all2) rfl
            walk_at "go"
            · unfold Fits
              rw [List.length_flatMap]
              refine Nat.le_trans (sum_le (b := 3) fun n hn => ?_) ?_
              · obtain ⟨x, hx, rfl⟩ := List.mem_map.mp hn
                rw [List.length_map]
                exact (h1.tgt1 x hx).2
              · rw [List.length_map]; omega
            · rfl
      | _ =>
        refine q_when S0 (b := true) (eb_orT (x := !PyData.isTuple _) (by walk_at "ev") rfl) (fun _ H1 s1 S1 => s_ret S1 (x := .d (.bool false)) (by walk_at "ev") fun v H2 s2 => k v H2 (s1.trans s2)) (fun h => by cases h)
local macro_rules | `(tactic| walk_at "cl") => `(tactic| with_reducible apply Ok_is_chain.mk)
/-! need_chain -/
inductive Ok_need_chain : List DV → DV → Prop
  | mk {v : D} (h : small v) (h2 : isChain v = true) : Ok_need_chain [.d v] (.d .none)
inductive Bad_need_chain (mg : Str → Option Value) : List DV → Value → Prop
  | mk {v : D} (h : small v) (h2 : isChain v = false) : Bad_need_chain mg [.d v] (.ref (xa mg "InvalidChain"))
theorem sc_need_chain : FnScope ["value"] ["value"] (defScope s_need_chain) := ⟨rfl, rfl, rfl, by decide +kernel, rfl, by decide +kernel, by decide +kernel⟩
theorem c_need_chain (T : Txt K mg) (d : ∃ f, DefAt K "need_chain" s_need_chain f) (hm : Left K mg) (c_is_chain : FnIs P w K mg base (L2N.CX P w) 4 "is_chain" ["value"] (spP K Ok_is_chain)) : FnIs P w K mg base (L2N.CX P w) 5 "need_chain" ["value"] (spX K Ok_need_chain (Bad_need_chain mg)) := by
  refine def_ok d (fun f e => hm _ _ e) sc_need_chain (fun _ _ _ _ _ _ us hl => match us, hl with | [_], _ => rfl) (fun xs h => ?_) (fun f cdv A outer s H vs E hr => ⟨_, (pss_one (ps_if (pt_not (kt_truth (K := K) rfl (pe_callF c_is_chain (hr.mono (by decide)) (L2N.passes_call (L2N.takes_of rfl rfl rfl rfl) (fun _ _ _ _ h => h)) (pa_cons (pv 0) pa_nil)) (by intro _; rfl))) (pss_one (L2N.ps_raise rfl (L2N.takes_of rfl rfl rfl rfl) (T.x_InvalidChain.pmk rfl))) pss_nil)), fun M xs Q S h => ?_⟩)
  · rcases h with ⟨_, ⟨⟩⟩ | ⟨_, ⟨⟩⟩ <;> rfl
  · obtain ⟨v, hv, S0, h1, h2⟩ : ∃ v, small v ∧ Sta K M H (L2.start ["value"] vs) [.d v] ∧ (isChain v = true → ∀ H', Same H H' → Q .non H') ∧ (isChain v = false → ∀ H', Same H H' → E (.ref (xa mg "InvalidChain")) none H') := by
      rcases h with ⟨y, hy, k⟩ | ⟨C, hy, k⟩
      · cases hy with
        | mk h h2 => exact ⟨_, h, S, fun _ H' s' => k _ H' s' Dq.non, fun e => by rw [h2] at e; cases e⟩
      · cases hy with
        | mk h h2 => exact ⟨_, h, S, fun e => by rw [h2] at e; (cases e), fun _ H' s' => k H' s'⟩
    refine s_if S0 (b := !isChain v) ?_ (fun hb H1 s1 S1 => h2 (by simpa using hb) H1 s1) (fun hb H1 s1 S1 => h1 (by simpa using hb) H1 s1)
    exact eb_not (eb_truB (ev_call (by walk_at "ev") (.mk hv)))
local macro_rules | `(tactic| walk_at "cl") => `(tactic| with_reducible apply Ok_need_chain.mk)
/-! tables_of -/
inductive Ok_tables_of : List DV → DV → Prop
  | mk {A : List Sc} (h : A.length ≤ 2) : Ok_tables_of [.d (encC A)] (.ks (A.map fun s => encT (writeT s)))
theorem sc_tables_of : FnScope ["chain", "scheme"] ["chain"] (defScope s_tables_of) := ⟨rfl, rfl, rfl, by decide +kernel, rfl, by decide +kernel, by decide +kernel⟩
theorem c_tables_of (T : Txt K mg) (d : ∃ f, DefAt K "tables_of" s_tables_of f) (hm : Left K mg) (c_write_table : FnIs P w K mg base (L2N.CX P w) 1 "write_table" ["scheme"] (spP K Ok_write_table)) : FnIs P w K mg base (L2N.CX P w) 2 "tables_of" ["chain"] (spP K Ok_tables_of) := by
  refine def_ok d (fun f e => hm _ _ e) sc_tables_of (fun _ _ _ _ _ _ us hl => match us, hl with | [_], _ => rfl) (fun xs h => ?_) (fun f cdv A outer s H vs E hr => ⟨_, (PSs.nox (pss_one (ps_ret (pe_lc (own := [("scheme", 1)]) rfl sc_tables_of.nd  (ki_seq (K := K) rfl (pv 0)) (blkOk_by (N := ["chain", "scheme"]) (sc := defScope s_tables_of) (by decide +kernel)) (fun _ _ _ _ _ => (pg_name (i := 1) sc_tables_of.nd rfl (Or.inl rfl))) (fun _ _ _ _ _ => pts_nil) (fun _ _ _ _ _ => (pe_callF c_write_table (hr.mono (by decide)) passN (pa_cons (pv 1) pa_nil))))))), fun M xs Q S h => ?_⟩)
  · rcases h with ⟨_, ⟨⟩⟩ | ⟨_, ⟨⟩⟩ <;> rfl
  · rcases h with ⟨y, hy, k⟩ | ⟨_, ⟨⟩, _⟩
    cases hy with
    | mk h =>
      rename_i A
      have S0 : Sta K M H _ [.d (encC A), .z] := S
      refine s_ret S0 (ev_lcK (its := A) (it := fun s => .d (encS s)) (js := [1]) (EvI.is (ei_seq (x := .d (encC A)) (by walk_at "ev") SeqX.t) (by rw [List.map_map]; rfl)) (fun x _ => g_name) (.mk rfl) (fun q s hs => ev_call (by walk_at "ev") .mk) (by omega)) k
local macro_rules | `(tactic| walk_at "cl") => `(tactic| with_reducible apply Ok_tables_of.mk)
/-! smallest_difference -/
inductive Ok_smallest_difference : List DV → DV → Prop
  | mk {ls : W} {A B : List Sc} {r : Option W} (hls : ls.Pairwise (· < ·)) (hl : ls.length ≤ 1000) (hA : Tot ls A) (hB : Tot ls B) (hN : prodN A * prodN B ≤ 2500) (f : Finds (differ A B) ls r) :
      Ok_smallest_difference [.d (encW (ls.map fun c => [c])), .ks (A.map fun s => encT (writeT s)), .ks (B.map fun s => encT (writeT s))] (.d (encO r))
inductive OkN_differs : List DV → List DV → DV → Prop
  | mk {ls w : W} {A B : List Sc} (hA : Tot ls A) (hB : Tot ls B) (h1 : w.length ≤ 2600) (h2 : Over ls w) : OkN_differs [.ks (A.map fun s => encT (writeT s)), .ks (B.map fun s => encT (writeT s))] [.d (ds w)] (.d (.bool (differ A B w)))
inductive OkN_stateD : List DV → List DV → DV → Prop
  | mk {ls w : W} {A B : List Sc} (hA : Tot ls A) (hB : Tot ls B) (h1 : w.length ≤ 2600) (h2 : Over ls w) : OkN_stateD [.ks (A.map fun s => encT (writeT s)), .ks (B.map fun s => encT (writeT s))] [.d (ds w)] (.d (NestedKey.tup (stateK A B w)).data)
abbrev ns_smallest_difference_differs : Stmt := (defBody s_smallest_difference).getD 0 (.Pass ⟨0, 0, 0, 0⟩)
theorem nsc_smallest_difference_differs : NScope ["word", "first", "second"] ["word"] ["first", "second"] (C8.fnScope ns_smallest_difference_differs) := nscope_by (by decide +kernel)
theorem nd_smallest_difference_differs : ndefB (defScope s_smallest_difference) (C8.fnScope ns_smallest_difference_differs) ["first", "second"] = true := by decide +kernel
abbrev ns_smallest_difference_state_of : Stmt := (defBody s_smallest_difference).getD 1 (.Pass ⟨0, 0, 0, 0⟩)
theorem nsc_smallest_difference_state_of : NScope ["word", "first", "second", "one", "other", "size"] ["word"] ["first", "second"] (C8.fnScope ns_smallest_difference_state_of) := nscope_by (by decide +kernel)
theorem nd_smallest_difference_state_of : ndefB (defScope s_smallest_difference) (C8.fnScope ns_smallest_difference_state_of) ["first", "second"] = true := by decide +kernel
theorem sc_smallest_difference : FnScope ["letters", "first", "second", "differs", "state_of"] ["letters", "first", "second"] (defScope s_smallest_difference) := ⟨rfl, rfl, rfl, by decide +kernel, rfl, by decide +kernel, by decide +kernel⟩
theorem c_smallest_difference (T : Txt K mg) {c : Addr} (d : ∃ f, DefAtC K "smallest_difference" s_smallest_difference f c) (TB : TabB base mg c (tabP K c)) (hTK : (tabP K c, nmT s_smallest_difference "smallest_difference.<locals>.") ∈ TK) (huT : ∀ p ∈ TK, p.1 = tabP K c → p.2 = nmT s_smallest_difference "smallest_difference.<locals>.") (hm : Left K mg) (c_smallest : FnIs P w K mg base (L2N.CX P w) 41 "smallest" ["letters", "is_found", "state_of"] (spSm P w K mg base)) (c_finish : FnIs P w K mg base (L2N.CX P w) 4 "finish" ["tables", "word"] (spP K Ok_finish)) (c_run : FnIs P w K mg base (L2N.CX P w) 3 "run" ["tables", "word"] (spP K Ok_run)) : FnIs P w K mg base (L2N.CX P w) 42 "smallest_difference" ["letters", "first", "second"] (spTab TK K Ok_smallest_difference noBad) := by
  refine def_okTab d (fun f e => hm _ _ e) sc_smallest_difference (fun _ _ _ _ _ _ us hl => match us, hl with | [_, _, _], _ => rfl) (fun xs h => ?_) (fun f A outer s H vs E hr => ⟨_, (PSs.nox (pss_cons (ps_ndefG (T := TK) (c := c) (P := tabP K c) (i := 3) rfl TB rfl hTK (by rfl) huT (ndef_free nd_smallest_difference_differs) rfl rfl rfl sc_smallest_difference.nd rfl (Or.inl rfl) (Or.inr rfl))
    (pss_cons (ps_ndefG (T := TK) (c := c) (P := tabP K c) (i := 4) rfl TB rfl hTK (by rfl) huT (ndef_free nd_smallest_difference_state_of) rfl rfl rfl sc_smallest_difference.nd rfl (Or.inl rfl) (Or.inr rfl))
    (pss_one (ps_ret (pe_callW c_smallest (hr.mono (by decide)) (fun _ _ _ => rfl) (pa_cons (pv 0) (pa_cons (pv 3) (pa_cons (pv 4) pa_nil))))))))), fun M xs Q S tm tb h => ?_⟩)
  · rcases h with ⟨_, ⟨⟩⟩ | ⟨_, ⟨⟩⟩ <;> rfl
  · have n1 : ∀ q cl c' f, NOk P ‹World› K mg base (L2N.CX P ‹World›) 40 f (NF.of ns_smallest_difference_differs "differs" q cl c') ["word"] ["first", "second"] (spN K OkN_differs) := fun q cl c' f =>
      nok_ok (k := 39) nsc_smallest_difference_differs (fun _ _ _ us hl => match us, hl with | [_], _ => rfl) (fun cs xs x h => by cases h; rfl) fun A outer s H vs ws E hr => ⟨_, (pss_one (ps_ret (pe_cmpR (op_neQ (by exact hr.units)) (pe_callF c_finish (hr.mono (by decide)) (L2N.passes_call (L2N.takes_of rfl rfl rfl rfl) (fun _ _ _ _ h => h)) (pa_cons (pv 1) (pa_cons (pv 0) pa_nil))) (pe_callF c_finish (hr.mono (by decide)) (L2N.passes_call (L2N.takes_of rfl rfl rfl rfl) (fun _ _ _ _ h => h)) (pa_cons (pv 2) (pa_cons (pv 0) pa_nil))) (nomark _)))), fun M cs xs x Q S h k => by
        cases h with
        | mk hA hB h1 h2 =>
          rename_i ls w A B
          obtain ⟨y, ey⟩ := Option.isSome_iff_exists.mp (hA.tot w h2)
          obtain ⟨z, ez⟩ := Option.isSome_iff_exists.mp (hB.tot w h2)
          exact s_ret (ρ := [.d (ds w), .ks (A.map fun s => encT (writeT s)), .ks (B.map fun s => encT (writeT s))]) S (EvX.is (ev_op (x := .d (ds y)) (y := .d (ds z)) (ev_call (ea_cons (ev_vks rfl) (ea_cons (by walk_at "ev") ea_nil)) (.mk hA.ok hA.few h1 ey)) (ev_call (ea_cons (ev_vks rfl) (ea_cons (by walk_at "ev") ea_nil)) (.mk hB.ok hB.few h1 ez)) rx_neW) (by
            unfold differ; rw [ey, ez]; congr 4; exact propext ⟨fun h => by rw [h], fun h => Option.some.inj h⟩)) k⟩
    have n2 : ∀ q cl c' f, NOk P ‹World› K mg base (L2N.CX P ‹World›) 40 f (NF.of ns_smallest_difference_state_of "state_of" q cl c') ["word"] ["first", "second"] (spN K OkN_stateD) := fun q cl c' f =>
      nok_ok (k := 39) nsc_smallest_difference_state_of (fun _ _ _ us hl => match us, hl with | [_], _ => rfl) (fun cs xs x h => by cases h; rfl) fun A outer s H vs ws E hr => ⟨_, (pss_cons (ps_par (i := 3) (j := 4) (by rfl) nsc_smallest_difference_state_of.nd rfl rfl (by decide) rfl rfl (pa_cons (pe_callF c_run (hr.mono (by decide)) (L2N.passes_call (L2N.takes_of rfl rfl rfl rfl) (fun _ _ _ _ h => h)) (pa_cons (pv 1) (pa_cons (pv 0) pa_nil))) (pa_cons (pe_callF c_run (hr.mono (by decide)) (L2N.passes_call (L2N.takes_of rfl rfl rfl rfl) (fun _ _ _ _ h => h)) (pa_cons (pv 2) (pa_cons (pv 0) pa_nil))) pa_nil)) (by rfl))
    (pss_cons (ps_set (i := 5) nsc_smallest_difference_state_of.nd rfl (Or.inl rfl) (pe_callB (call_min2 rfl) (by rfl) T.b_min (by decide +kernel) (pa_cons (pe_callB (CallR.k (K := K) (r := rLenU) call_lenU rfl) (by rfl) T.b_len (by decide +kernel) (pa_cons (k_sub (K := K) (by exact hr.units) rfl (pv 3) pe_int (by intro _ _; rfl)) pa_nil)) (pa_cons (pe_callB (CallR.k (K := K) (r := rLenU) call_lenU rfl) (by rfl) T.b_len (by decide +kernel) (pa_cons (k_sub (K := K) (by exact hr.units) rfl (pv 4) pe_int (by intro _ _; rfl)) pa_nil)) pa_nil))))
    (pss_one (ps_ret (pe_tupF (pa_cons (k_sub (K := K) (by exact hr.units) rfl (pv 3) pe_int (by intro _ _; rfl)) (pa_cons (k_sub (K := K) (by exact hr.units) rfl (pv 4) pe_int (by intro _ _; rfl)) (pa_cons (pe_slice (SlR.k (K := K) (r := rSlU) sl_U rfl) (k_sub (K := K) (by exact hr.units) rfl (pv 3) pe_int (by intro _ _; rfl)) (po_some (pv 5)) po_none) (pa_cons (pe_slice (SlR.k (K := K) (r := rSlU) sl_U rfl) (k_sub (K := K) (by exact hr.units) rfl (pv 4) pe_int (by intro _ _; rfl)) (po_some (pv 5)) po_none) pa_nil))))))))), fun M cs xs x Q S h k => by
        cases h with
        | mk hA hB h1 h2 =>
          rename_i ls w A B
          obtain ⟨a, x, ea⟩ := run_of hA h2
          obtain ⟨b, y, eb⟩ := run_of hB h2
          have la := runO_len hA.ok ea
          have lb := runO_len hB.ok eb
          have hfa := hA.few
          have hfb := hB.few
          have p9 : ∀ n, n ≤ 2 → 3 ^ n ≤ 9 := fun n hn => Nat.le_trans (Nat.pow_le_pow_right (by decide) hn) (by decide)
          have hx : x.length ≤ 23400 := by have := Nat.mul_le_mul h1 (p9 _ hfa); omega
          have hy : y.length ≤ 23400 := by have := Nat.mul_le_mul h1 (p9 _ hfb); omega
          have ek := stateK_data A B w
          have es : stateD A B w = ((a, b), (x.drop (min x.length y.length), y.drop (min x.length y.length))) := by unfold stateD; rw [ea, eb]
          rw [es] at ek
          rw [ek] at k
          have S0 : Sta K M H _ [.d (ds w), .ks (A.map fun s => encT (writeT s)), .ks (B.map fun s => encT (writeT s)), .z, .z, .z] := S
          refine q_par S0 (x := .d (.tuple [.tuple (a.map ds), ds x])) (y := .d (.tuple [.tuple (b.map ds), ds y])) (ea_cons (ev_call (ea_cons (ev_vks rfl) (ea_cons (by walk_at "ev") ea_nil)) (.mk hA.ok hA.few h1 ea)) (ea_cons (ev_call (ea_cons (ev_vks rfl) (ea_cons (by walk_at "ev") ea_nil)) (.mk hB.ok hB.few h1 eb)) ea_nil)) fun σ1 H1 s1 S1 => ?_
          have one : ∀ {c : Cz} {ρ : List DV}, ρ[3]? = some (.d (.tuple [.tuple (a.map ds), ds x])) → EvX c (tSub c.K (tVar 3) (tC (.int 1))) ρ (.d (ds x)) := fun h => ev_sub (x := .d (.tuple [.tuple (a.map ds), ds x])) (y := .d (.int 1)) (ev_vd h) ev_int (.t rfl)
          have oth : ∀ {c : Cz} {ρ : List DV}, ρ[4]? = some (.d (.tuple [.tuple (b.map ds), ds y])) → EvX c (tSub c.K (tVar 4) (tC (.int 1))) ρ (.d (ds y)) := fun h => ev_sub (x := .d (.tuple [.tuple (b.map ds), ds y])) (y := .d (.int 1)) (ev_vd h) ev_int (.t rfl)
          refine q_asg S1 (x := .d (.int ((min x.length y.length : Nat) : Int))) (EvX.is (ev_cb (xs := [.d (.int ((x.length : Nat) : Int)), .d (.int ((y.length : Nat) : Int))]) (ea_cons (ev_cb (xs := [.d (ds x)]) (ea_cons (one rfl) ea_nil) (rc_lenS (by omega))) (ea_cons (ev_cb (xs := [.d (ds y)]) (ea_cons (oth rfl) ea_nil) (rc_lenS (by omega))) ea_nil)) rc_min2) (by rw [min_if])) fun σ2 H2 s2 S2 => ?_
          refine s_ret S2 (ev_tupD (xs := [.tuple (a.map ds), .tuple (b.map ds), ds (x.drop (min x.length y.length)), ds (y.drop (min x.length y.length))]) (ead_cons (ev_sub (x := .d (.tuple [.tuple (a.map ds), ds x])) (y := .d (.int 0)) (by walk_at "ev") (by walk_at "ev") (.t rfl)) (ead_cons (ev_sub (x := .d (.tuple [.tuple (b.map ds), ds y])) (y := .d (.int 0)) (by walk_at "ev") (by walk_at "ev") (.t rfl)) (ead_cons ?_ (ead_cons ?_ ead_nil)))) (by show 4 ≤ 1000; decide)) fun v H3 s3 o3 => k v H3 (s1.trans (s2.trans s3)) o3
          · exact EvX.is (ev_sl (lo := some ((min x.length y.length : Nat) : Int)) (hi := none) (one rfl) (eo_some (by walk_at "ev")) eo_none (.s (by omega))) (by rw [cut_drop _ _ (by omega)]; rfl)
          · exact EvX.is (ev_sl (lo := some ((min x.length y.length : Nat) : Int)) (hi := none) (oth rfl) (eo_some (by walk_at "ev")) eo_none (.s (by omega))) (by rw [cut_drop _ _ (by omega)]; rfl)⟩
    have hP : tabP K c ∈ M := tm _ (List.mem_map.mpr ⟨_, hTK, rfl⟩)
    rcases h with ⟨y, hy, k⟩ | ⟨C, ⟨⟩, k⟩
    cases hy with
    | mk hls hl hA hB hN fr =>
      rename_i ls A B r
      have S0 : Sta K M H _ [.d (encW (ls.map fun c => [c])), .ks (A.map fun s => encT (writeT s)), .ks (B.map fun s => encT (writeT s)), .z, .z] := S
      refine q_ndef S0 hP hTK tb fun f1 c1 H2 g2 t2 f0 fn1 cn1 S2 => ?_
      refine q_ndef S2 hP hTK t2 fun f2 c2 H3 g3 t3 f0' fn2 cn2 S3 => ?_
      refine ret_W (xs := [.d (encW (ls.map fun c => [c])), .v (.ref f1), .v (.ref f2)]) S3 (by walk_at "ev") fun vs' H4 Hc s4 S4 args cp => ?_
      obtain ⟨M0, m1, m2, lv0, sm0, back⟩ := cells_hide cp S4
      have nP : ∀ {f' : Addr} {F : NF}, H2 f' = some (FnO f' F) → f' ∉ [tabP K c] := fun {f' F} e z => by
        obtain ⟨ps, e1, _⟩ := t2 _ hTK
        rw [List.mem_singleton.mp z, e1] at e
        exact fnO_ne _ (Option.some.inj e).symm
      have nC : ∀ {f' : Addr} {q : Str}, H2 f' = some (CodeO f' q) → f' ∉ [tabP K c] := fun {f' q} e z => by
        obtain ⟨ps, e1, _⟩ := t2 _ hTK
        rw [List.mem_singleton.mp z, e1] at e
        exact codeO_ne _ (Option.some.inj e).symm
      have henv := (env_slots (js := [1, 2]) (cs := [.ks (A.map fun s => encT (writeT s)), .ks (B.map fun s => encT (writeT s))]) S4.env (.cons ⟨rfl, by intro z; cases z⟩ (.cons ⟨rfl, by intro z; cases z⟩ .nil))).mono sm0
      have C1 := clo_here (js := [1, 2]) (fr := ["first", "second"]) (M0 := M0) cp (n1 _ _ _ f1) rfl nd_smallest_difference_differs rfl (s4 _ _ (g3 _ _ (nP fn1) fn1)) (s4 _ _ (g3 _ _ (nC cn1) cn1)) m2 henv
      have C2 := clo_here (js := [1, 2]) (fr := ["first", "second"]) (M0 := M0) cp (n2 _ _ _ f2) rfl nd_smallest_difference_state_of rfl (s4 _ _ fn2) (s4 _ _ cn2) m2 henv
      refine ⟨M0, ls, f1, f2, _, _, differ A B, stateK A B, prodN A * prodN B, lv0, args.mono sm0, C1, C2, ⟨hls, hl, by omega, ?_, ?_, ?_, ?_, ?_⟩, fun v H' r' s' fr' o' => ?_⟩
      · exact .mk hA hB (by simp) (by intro c hc; simp at hc)
      · intro u d gu hd hl
        refine .mk hA hB (by rw [List.length_append]; show u.length + 1 ≤ 2600; omega) fun x hx => ?_
        rcases List.mem_append.mp hx with hx | hx
        · exact gu.1 x hx
        · rw [List.mem_singleton.mp hx]; exact hd
      · exact fun u gu hl => ⟨.mk hA hB (by omega) gu.1, stateK_depth A B u⟩
      · exact fun u v gu gv e z => differ_same hA hB gu gv (stateK_inj e) z
      · intro V hV n
        refine differ_fin hA hB hV ?_
        refine nodup_injOn (f := stateK A B) (fun a _ b _ e => ?_) n
        unfold stateK; rw [e]
      · have e := fr'.uniq fr
        subst e
        have sg := same_mns cp s'
        have g := (g2.trans (g3.trans (Same.gr s4))).trans (Same.gr sg)
        refine ⟨fun b o e => s' b o (ovl_in e), k v _ (g.mono fun b hb => ?_) (t3.ext (s4.trans sg)) (back H' v _ o')⟩
        rw [List.mem_singleton.mp hb]; exact List.mem_map.mpr ⟨_, hTK, rfl⟩
/-! difference -/
inductive Ok_difference : List DV → DV → Prop
  | n : Ok_difference [.d (encC []), .d (encC [])] (.d .none)
  | mk {A B : List Sc} {l : W} {r : Option W} (hA : Chain A) (hB : Chain B) (hne : A ≠ [] ∨ B ≠ []) (ha : ∀ s, A.head? = some s → lettersW s = l) (hb : ∀ s, B.head? = some s → lettersW s = l) (hN : prodN A * prodN B ≤ 2500) (f : Finds (differ A B) l r) :
      Ok_difference [.d (encC A), .d (encC B)] (.d (encO r))
inductive Bad_difference (mg : Str → Option Value) : List DV → Value → Prop
  | a {v w : D} (h : small v) (h2 : isChain v = false) : Bad_difference mg [.d v, .d w] (.ref (xa mg "InvalidChain"))
  | b {A : List Sc} {w : D} (hA : Chain A) (h : small w) (h2 : isChain w = false) : Bad_difference mg [.d (encC A), .d w] (.ref (xa mg "InvalidChain"))
  | l {A B : List Sc} {s t : Sc} (hA : Chain (s :: A)) (hB : Chain (t :: B)) (h : letters s ≠ letters t) : Bad_difference mg [.d (encC (s :: A)), .d (encC (t :: B))] (.ref (xa mg "InvalidChain"))
theorem sc_difference : FnScope ["chain", "other", "letters"] ["chain", "other"] (defScope s_difference) := ⟨rfl, rfl, rfl, by decide +kernel, rfl, by decide +kernel, by decide +kernel⟩
theorem c_difference (T : Txt K mg) (d : ∃ f, DefAt K "difference" s_difference f) (hm : Left K mg) (c_need_chain : FnIs P w K mg base (L2N.CX P w) 5 "need_chain" ["value"] (spX K Ok_need_chain (Bad_need_chain mg))) (c_smallest_difference : FnIs P w K mg base (L2N.CX P w) 42 "smallest_difference" ["letters", "first", "second"] (spTab TK K Ok_smallest_difference noBad)) (c_letters_of : FnIs P w K mg base (L2N.CX P w) 1 "letters_of" ["scheme"] (spP K Ok_letters_of)) (c_tables_of : FnIs P w K mg base (L2N.CX P w) 2 "tables_of" ["chain"] (spP K Ok_tables_of)) : FnIs P w K mg base (L2N.CX P w) 43 "difference" ["chain", "other"] (spTab TK K Ok_difference (Bad_difference mg)) := by
  refine def_okTab2 d (fun f e => hm _ _ e) sc_difference (fun _ _ _ _ _ _ us hl => match us, hl with | [_, _], _ => rfl) (fun xs h => ?_) (fun f cdv A outer s H vs E hr => ⟨_, (pss_cons (ps_expr (pe_callF c_need_chain (hr.mono (by decide)) (L2N.passes_call (L2N.takes_of rfl rfl rfl rfl) (fun _ _ _ _ h => h)) (pa_cons (pv 0) pa_nil)))
    (pss_cons (ps_expr (pe_callF c_need_chain (hr.mono (by decide)) (L2N.passes_call (L2N.takes_of rfl rfl rfl rfl) (fun _ _ _ _ h => h)) (pa_cons (pv 1) pa_nil)))
    (pss_cons (ps_if (PW.pt (pw_and (pt_cmpR (op_eqQ (by exact hr.units)) (pv 0) (pe_tupF pa_nil) (nomark _)) (pw_and1 (pt_cmpR (op_eqQ (by exact hr.units)) (pv 1) (pe_tupF pa_nil) (nomark _))))) (pss_one (ps_ret pe_non)) pss_nil)
    (pss_cons (ps_if (PW.pt (pw_and (pt_cmpR (op_neQ (by exact hr.units)) (pv 0) (pe_tupF pa_nil) (nomark _)) (pw_and (pt_cmpR (op_neQ (by exact hr.units)) (pv 1) (pe_tupF pa_nil) (nomark _)) (pw_and1 (pt_cmpR (op_neQ (by exact hr.units)) (pe_callF c_letters_of (hr.mono (by decide)) (L2N.passes_call (L2N.takes_of rfl rfl rfl rfl) (fun _ _ _ _ h => h)) (pa_cons (k_sub (K := K) (by exact hr.units) rfl (pv 0) pe_int (by intro _ _; rfl)) pa_nil)) (pe_callF c_letters_of (hr.mono (by decide)) (L2N.passes_call (L2N.takes_of rfl rfl rfl rfl) (fun _ _ _ _ h => h)) (pa_cons (k_sub (K := K) (by exact hr.units) rfl (pv 1) pe_int (by intro _ _; rfl)) pa_nil)) (nomark _)))))) (pss_one (L2N.ps_raise rfl (L2N.takes_of rfl rfl rfl rfl) (T.x_InvalidChain.pmk rfl))) pss_nil)
    (pss_cons (ps_set (i := 2) sc_difference.nd rfl (Or.inl rfl) (pe_ifExp (pt_cmpR (op_neQ (by exact hr.units)) (pv 0) (pe_tupF pa_nil) (nomark _)) (pe_callF c_letters_of (hr.mono (by decide)) (L2N.passes_call (L2N.takes_of rfl rfl rfl rfl) (fun _ _ _ _ h => h)) (pa_cons (k_sub (K := K) (by exact hr.units) rfl (pv 0) pe_int (by intro _ _; rfl)) pa_nil)) (pe_callF c_letters_of (hr.mono (by decide)) (L2N.passes_call (L2N.takes_of rfl rfl rfl rfl) (fun _ _ _ _ h => h)) (pa_cons (k_sub (K := K) (by exact hr.units) rfl (pv 1) pe_int (by intro _ _; rfl)) pa_nil))))
    (pss_one (ps_ret (pe_callF c_smallest_difference (hr.mono (by decide)) (L2N.passes_call (L2N.takes_of rfl rfl rfl rfl) (fun _ _ _ _ h => h)) (pa_cons (pv 2) (pa_cons (pe_callF c_tables_of (hr.mono (by decide)) (L2N.passes_call (L2N.takes_of rfl rfl rfl rfl) (fun _ _ _ _ h => h)) (pa_cons (pv 0) pa_nil)) (pa_cons (pe_callF c_tables_of (hr.mono (by decide)) (L2N.passes_call (L2N.takes_of rfl rfl rfl rfl) (fun _ _ _ _ h => h)) (pa_cons (pv 1) pa_nil)) pa_nil))))))))))), fun M xs Q S h => ?_⟩)
  · rcases h with ⟨_, ⟨⟩⟩ | ⟨_, ⟨⟩⟩ <;> rfl
  · have emp : ∀ {c : Cz} {ρ : List DV} {i : Nat} {A : List Sc}, ρ[i]? = some (.d (encC A)) → EvB c (tTest (tOp rEqQ (tVar i) (tTupF tNil))) ρ (decide (A = [])) := fun {c ρ i A} h =>
      EvB.is (eb_test (ev_op (x := .d (encC A)) (y := .d (.tuple [])) (ev_vd h) (ev_tupD (xs := []) ead_nil (by show 0 ≤ 1000; decide)) (rx_eq (Nat.le_trans (Nat.min_le_right _ _) (by decide))))) (eqv_C0 A)
    have nem : ∀ {c : Cz} {ρ : List DV} {i : Nat} {A : List Sc}, ρ[i]? = some (.d (encC A)) → EvB c (tTest (tOp rNeQ (tVar i) (tTupF tNil))) ρ (!decide (A = [])) := fun {c ρ i A} h =>
      EvB.is (eb_test (ev_op (x := .d (encC A)) (y := .d (.tuple [])) (ev_vd h) (ev_tupD (xs := []) ead_nil (by show 0 ≤ 1000; decide)) (rx_ne (Nat.le_trans (Nat.min_le_right _ _) (by decide))))) (by rw [eqv_C0])
    have let0 : ∀ {c : Cz} {ρ : List DV} {i : Nat} {A : List Sc} {s : Sc} {E' : XK}, Scheme s → ρ[i]? = some (.d (encC (s :: A))) → EvX c (tCall (spP c.K Ok_letters_of) [] E' (tCons (tSub c.K (tVar i) (tC (.int 0))) tNil)) ρ (.d (encW (letters s))) := fun {c ρ i A s E'} hs h =>
      ev_call (xs := [.d (encS s)]) (ea_cons (ev_sub (x := .d (encC (s :: A))) (y := .d (.int 0)) (ev_vd h) ev_int (.t (by rw [atI_zero]; rfl))) ea_nil) (.mk hs)
    have chk : ∀ {A : List Sc}, Chain A → isChain (encC A) = true := isChain_enc
    rcases h with ⟨y, hy, k⟩ | ⟨C, hy, k⟩
    · cases hy with
      | n =>
        have S0 : StaT K M (twT TK) H _ [.d (encC []), .d (encC []), .z] := S
        have c0 : Chain [] := ⟨by simp, by decide, by intro _ _ e; cases e⟩
        refine q_drop S0.sta (x := .d .none) (ev_call (by walk_at "ev") (.mk c0.small (chk c0))) fun H1 s1 S1 => ?_
        refine q_drop S1 (x := .d .none) (ev_call (by walk_at "ev") (.mk c0.small (chk c0))) fun H2 s2 S2 => ?_
        refine q_when S2 (b := true) (EvB.is (eb_and (emp (A := []) rfl) fun _ => emp (A := []) rfl) rfl) (fun _ H3 s3 S3 => ?_) (fun hb => by cases hb)
        exact s_ret S3 (x := .d .none) (by walk_at "ev") fun v H4 s4 o4 => k v H4 (Same.gr (s1.trans (s2.trans (s3.trans s4)))) (TabsN.ext S0.tw (s1.trans (s2.trans (s3.trans s4)))) o4
      | mk hA hB hne ha hb hN f =>
        rename_i A B l r
        have S0 : StaT K M (twT TK) H _ [.d (encC A), .d (encC B), .z] := S
        have hlet : ∀ s, lettersW s = l → letters s = l.map fun c => [c] := fun s e => by rw [← e]; exact (lettersW_map s).symm
        obtain ⟨s0, hs0, hl0⟩ : ∃ s, Scheme s ∧ lettersW s = l := by
          cases A with
          | cons s A => exact ⟨s, hA.ok s List.mem_cons_self, ha s rfl⟩
          | nil => cases B with
            | cons s B => exact ⟨s, hB.ok s List.mem_cons_self, hb s rfl⟩
            | nil => simp at hne
        refine q_drop S0.sta (x := .d .none) (ev_call (by walk_at "ev") (.mk hA.small (chk hA))) fun H1 s1 S1 => ?_
        refine q_drop S1 (x := .d .none) (ev_call (by walk_at "ev") (.mk hB.small (chk hB))) fun H2 s2 S2 => ?_
        refine q_when S2 (b := false) (EvB.is (eb_and (emp (A := A) rfl) fun _ => emp (A := B) rfl) (by
          rcases hne with h | h
          · rw [decide_eq_false h]; rfl
          · rw [decide_eq_false h, Bool.and_false])) (fun hb => by cases hb) fun _ H3 s3 S3 => ?_
        refine q_when S3 (b := false) ?_ (fun hb => by cases hb) fun _ H4 s4 S4 => ?_
        · cases A with
          | nil => exact EvB.is (eb_andF (x := false) (nem (A := []) rfl) rfl) rfl
          | cons s A =>
            refine EvB.is (eb_and (a := true) (b := false) (nem (A := s :: A) rfl) fun _ => ?_) rfl
            cases B with
            | nil => exact EvB.is (eb_andF (x := false) (nem (A := []) rfl) rfl) rfl
            | cons t B =>
              refine EvB.is (eb_and (a := true) (b := false) (nem (A := t :: B) rfl) fun _ => ?_) rfl
              exact EvB.is (eb_test (ev_op (x := .d (encW (letters s))) (y := .d (encW (letters t))) (let0 (A := A) (hA.ok s List.mem_cons_self) rfl) (let0 (A := B) (hB.ok t List.mem_cons_self) rfl) (rx_ne (Nat.le_trans (Nat.min_le_left _ _) (depth_w _))))) (by rw [eqv_W, hlet s (ha s rfl), hlet t (hb t rfl)]; simp)
        refine q_asg S4 (x := .d (encW (l.map fun c => [c]))) (ev_if (b := !decide (A = [])) (nem (A := A) rfl) (fun hb' => ?_) (fun hb' => ?_)) fun σ5 H5 s5 S5 => ?_
        · cases A with
          | nil => cases hb'
          | cons s A => rw [← hlet s (ha s rfl)]; exact let0 (A := A) (hA.ok s List.mem_cons_self) rfl
        · have eA : A = [] := by simpa using hb'
          cases B with
          | nil => simp [eA] at hne
          | cons t B => rw [← hlet t (hb t rfl)]; exact let0 (A := B) (hB.ok t List.mem_cons_self) rfl
        have ss := s1.trans (s2.trans (s3.trans (s4.trans s5)))
        have T5 : StaT K M (twT TK) H5 σ5 _ := S0.of ss S5
        refine st_ret (P := (· = .d (encO r))) T5 (et_callTab (T := TK) (x := .d (encO r)) (ea_cons (by walk_at "ev") (ea_cons (ev_call (by walk_at "ev") (.mk hA.few)) (ea_cons (ev_call (by walk_at "ev") (.mk hB.few)) ea_nil))) (.mk (by rw [← hl0]; exact lettersW_asc hs0) (by have := lettersW_len (s := s0); have := hs0.ten; rw [← hl0]; omega) (hA.tot fun s e c hc => lettersW_mem.mp (by rw [ha s e]; exact hc)) (hB.tot fun s e c hc => lettersW_mem.mp (by rw [hb s e]; exact hc)) hN f) rfl) fun v x H6 px g6 w6 o6 => ?_
        subst px
        exact k v H6 ((Same.gr ss).trans g6) w6 o6
    · cases hy with
      | a h h2 =>
        rename_i v w
        have S0 : StaT K M (twT TK) H _ [.d v, .d w, .z] := S
        exact bad_call S0.sta (by walk_at "ev") (.mk h h2) k
      | b hA h h2 =>
        rename_i A w
        have S0 : StaT K M (twT TK) H _ [.d (encC A), .d w, .z] := S
        refine q_drop S0.sta (x := .d .none) (ev_call (by walk_at "ev") (.mk hA.small (chk hA))) fun H1 s1 S1 => ?_
        exact bad_call S1 (by walk_at "ev") (.mk h h2) fun H' s' => k H' (s1.trans s')
      | l hA hB h =>
        rename_i A B s t
        have S0 : StaT K M (twT TK) H _ [.d (encC (s :: A)), .d (encC (t :: B)), .z] := S
        refine q_drop S0.sta (x := .d .none) (ev_call (by walk_at "ev") (.mk hA.small (chk hA))) fun H1 s1 S1 => ?_
        refine q_drop S1 (x := .d .none) (ev_call (by walk_at "ev") (.mk hB.small (chk hB))) fun H2 s2 S2 => ?_
        refine q_when S2 (b := false) (EvB.is (eb_andF (x := false) (emp (A := s :: A) rfl) rfl) rfl) (fun hb => by cases hb) fun _ H3 s3 S3 => ?_
        refine q_when S3 (b := true) ?_ (fun _ H4 s4 S4 => k H4 (s1.trans (s2.trans (s3.trans s4)))) (fun hb => by cases hb)
        refine EvB.is (eb_and (a := true) (b := true) (nem (A := s :: A) rfl) fun _ => EvB.is (eb_and (a := true) (b := true) (nem (A := t :: B) rfl) fun _ => ?_) rfl) rfl
        exact EvB.is (eb_test (ev_op (x := .d (encW (letters s))) (y := .d (encW (letters t))) (let0 (A := A) (hA.ok s List.mem_cons_self) rfl) (let0 (A := B) (hB.ok t List.mem_cons_self) rfl) (rx_ne (Nat.le_trans (Nat.min_le_left _ _) (depth_w _))))) (by rw [eqv_W, decide_eq_false h]; rfl)
local macro_rules | `(tactic| walk_at "cl") => `(tactic| with_reducible apply Ok_difference.mk)
/-! _law_near -/
inductive Ok__law_near (t : Addr) : List DV → (DV → Prop) → Prop
  | mk {ns : List Int} {l : W} {s : Sc} (hn : Nr l s) (hl : l ∈ ([[97], [97, 98]] : List W)) : Ok__law_near t [.s ns, .v (.ref t), .d (encS s), .d (ds l)] (fun x => ∃ s' : Sc, x = .d (encS s') ∧ Nr l s')
theorem sc__law_near : FnScope ["_law_script", "_law_town", "_law_scheme_here", "_law_letters_here", "_law_what", "_law_at", "_law_entry"] ["_law_script", "_law_town", "_law_scheme_here", "_law_letters_here"] (defScope s__law_near) := ⟨rfl, rfl, rfl, by decide +kernel, rfl, by decide +kernel, by decide +kernel⟩
theorem c__law_near (T : Txt K mg) (d : ∃ f, DefAt K "_law_near" s__law_near f) (hm : Left K mg) (c__law_scheme : FnIs P w K mg base (L2N.CX P w) 4 "_law_scheme" ["_law_script", "_law_town", "_law_letters_here", "_law_targets", "_law_more"] (spT K Ok__law_scheme)) (c__law_draw : FnIs P w K mg base (L2N.CX P w) 1 "_law_draw" ["_law_script", "_law_town", "_law_many"] (spT K Ok__law_draw)) (c__law_string : FnIs P w K mg base (L2N.CX P w) 3 "_law_string" ["_law_script", "_law_town", "_law_letters_here", "_law_least", "_law_most"] (spT K Ok__law_string)) : FnIs P w K mg base (L2N.CX P w) 5 "_law_near" ["_law_script", "_law_town", "_law_scheme_here", "_law_letters_here"] (spT K Ok__law_near) := by
  refine def_okT d (fun f e => hm _ _ e) sc__law_near (fun _ _ _ _ _ _ us hl => match us, hl with | [_, _, _, _], _ => rfl) (fun t xs Pd h => ?_) (fun f cdv A outer s H vs E hr => ⟨_, (PSs.nox (pss_cons (ps_par (i := 4) (j := 5) (by rfl) sc__law_near.nd rfl rfl (by decide) rfl rfl (pa_cons (pe_callF c__law_draw (hr.mono (by decide)) passN (pa_cons (pv 0) (pa_cons (pv 1) (pa_cons pe_int pa_nil)))) (pa_cons (pe_callF c__law_draw (hr.mono (by decide)) passN (pa_cons (pv 0) (pa_cons (pv 1) (pa_cons (pe_callB (CallR.k (K := K) (r := rLenU) call_lenU rfl) (by rfl) T.b_len (by decide +kernel) (pa_cons (pv 2) pa_nil)) pa_nil)))) pa_nil)) (by rfl))
    (pss_cons (ps_if (PW.pt (pw_and (pt_cmpR (op_eqQ (by exact hr.units)) (pv 4) pe_int (nomark _)) (pw_and1 (pt_cmpR (op_gtU (by exact hr.units)) (pe_callB (CallR.k (K := K) (r := rLenU) call_lenU rfl) (by rfl) T.b_len (by decide +kernel) (pa_cons (k_sub (K := K) (by exact hr.units) rfl (k_sub (K := K) (by exact hr.units) rfl (pv 2) (pv 5) (by intro _ _; rfl)) pe_int (by intro _ _; rfl)) pa_nil)) pe_int (nomark _))))) (pss_one (ps_ret (pe_op (OpR.k (K := K) (r := rAddU) op_addU rfl) (pe_slice (SlR.k (K := K) (r := rSlU) sl_U rfl) (pv 2) po_none (po_some (pv 5))) (pe_slice (SlR.k (K := K) (r := rSlU) sl_U rfl) (pv 2) (po_some (pe_op (OpR.k (K := K) (r := rAddU) op_addU rfl) (pv 5) pe_int)) po_none)))) pss_nil)
    (pss_cons (ps_if (pt_cmpR (op_ltU (by exact hr.units)) (pv 4) pe_int (nomark _)) (pss_cons (ps_set (i := 6) sc__law_near.nd rfl (Or.inl rfl) (pe_tupF (pa_cons (k_sub (K := K) (by exact hr.units) rfl (k_sub (K := K) (by exact hr.units) rfl (pv 2) (pv 5) (by intro _ _; rfl)) pe_int (by intro _ _; rfl)) (pa_cons (pe_callF c__law_string (hr.mono (by decide)) passN (pa_cons (pv 0) (pa_cons (pv 1) (pa_cons (pe_strW [97, 98]) (pa_cons pe_int (pa_cons pe_int pa_nil)))))) pa_nil))))
    (pss_one (ps_ret (pe_op (OpR.k (K := K) (r := rAddU) op_addU rfl) (pe_op (OpR.k (K := K) (r := rAddU) op_addU rfl) (pe_slice (SlR.k (K := K) (r := rSlU) sl_U rfl) (pv 2) po_none (po_some (pv 5))) (pe_tupF (pa_cons (pv 6) pa_nil))) (pe_slice (SlR.k (K := K) (r := rSlU) sl_U rfl) (pv 2) (po_some (pe_op (OpR.k (K := K) (r := rAddU) op_addU rfl) (pv 5) pe_int)) po_none))))) pss_nil)
    (pss_one (ps_ret (pe_callF c__law_scheme (hr.mono (by decide)) passN (pa_cons (pv 0) (pa_cons (pv 1) (pa_cons (pv 3) (pa_cons (pe_strW [97, 98]) (pa_cons pe_int pa_nil)))))))))))), fun M t it xs Pd Q h S k => ?_⟩)
  · cases h <;> rfl
  · cases h with
    | mk hn hl =>
      rename_i ns l s
      have hs := hn.ok
      have h4 := hn.few
      have h1 := hs.one
      have key : ∀ l ∈ ([[97], [97, 98]] : List W), l ≠ [] ∧ (∀ c ∈ l, c ∈ lowers) ∧ l.length ≤ 2 := by decide
      obtain ⟨hl0, hl2, hl3⟩ := key l hl
      have key2 : ∀ l ∈ ([[97], [97, 98]] : List W), l.Pairwise (· < ·) := by decide
      have hasc := key2 l hl
      have S0 : StaT K M t H _ [.s ns, .v (.ref t.a), .d (encS s), .d (ds l), .z, .z, .z] := S
      refine qt_par S0 (i := 4) (j := 5) (Pa := fun x => ∃ r : Nat, x = .d (.int r)) (Pb := fun x => ∃ r : Nat, x = .d (.int r) ∧ r < s.length) (eat_cons ((et_call (xs := [.s ns, .v (.ref t.a), .d (.int 4)]) (by walk_at "ev") (.mk (by decide) (by decide))).imp ?_) (eat_cons ((et_call (xs := [.s ns, .v (.ref t.a), .d (.int s.length)]) (by walk_at "ev") (.mk (by omega) (by omega))).imp ?_) eat_nil)) fun x y σ1 H1 px py g1 S1 => ?_
      · rintro _ ⟨r, rfl, _⟩; exact ⟨r, rfl⟩
      · rintro _ ⟨r, rfl, hr⟩; exact ⟨r, rfl, by omega⟩
      obtain ⟨r, rfl⟩ := px
      obtain ⟨i, rfl, hi⟩ := py
      obtain ⟨q, hq⟩ : ∃ q, s[i]? = some q := ⟨_, List.getElem?_eq_getElem hi⟩
      have hqm := List.mem_of_getElem? hq
      have hq3 := (hs.src1 q hqm).2
      have hat : atI (s.map encP) (i : Int) = some (encP q) := atI_nat (by rw [List.getElem?_map, hq]; rfl)
      have src : ∀ {c : Cz} {ρ : List DV}, ρ[2]? = some (.d (encS s)) → ρ[5]? = some (.d (.int (i : Int))) → EvX c (tSub c.K (tSub c.K (tVar 2) (tVar 5)) (tC (.int 0))) ρ (.d (ds q.1)) := fun h2 h5 => ev_sub (x := .d (.tuple [ds q.1, ds q.2])) (y := .d (.int 0)) (ev_sub (x := .d (encS s)) (y := .d (.int (i : Int))) (ev_vd h2) (ev_vd h5) (.t hat)) ev_int (.t rfl)
      refine q_when S1.sta (b := decide ((r : Int) = 0) && decide ((1 : Int) < (q.1.length : Int))) ?_ (fun hb H2 s2 S2 => ?_) fun hb H2 s2 S2 => ?_
      · refine eb_and (by walk_at "ev") fun _ => eb_test (ev_op (x := .d (.int (q.1.length : Int))) (y := .d (.int 1)) (ev_cb (xs := [.d (ds q.1)]) (ea_cons (src rfl rfl) ea_nil) (rc_lenS (by omega))) (by walk_at "ev") rx_gtI)
      · rw [Bool.and_eq_true, decide_eq_true_eq, decide_eq_true_eq] at hb
        refine s_ret S2 (x := .d (encS (s.take i ++ s.drop (i + 1)))) (EvX.is (ev_op (x := .d (.tuple ((s.take i).map encP))) (y := .d (.tuple ((s.drop (i + 1)).map encP))) (EvX.is (ev_sl (lo := none) (hi := some (i : Int)) (x := .d (.tuple (s.map encP))) (by walk_at "ev") eo_none (eo_some (by walk_at "ev")) SlX.tm) (by rw [cut_take _ _ (by omega)]; rfl)) (EvX.is (ev_sl (lo := some ((i : Int) + 1)) (hi := none) (x := .d (.tuple (s.map encP))) (by walk_at "ev") (eo_some (by walk_at "ev")) eo_none SlX.tm) (by rw [cut_drop _ _ (by omega)]; rfl)) (rx_addT (by rw [List.length_map, List.length_map, List.length_take, List.length_drop]; omega))) (by rw [← List.map_append])) fun v H3 s3 o3 => ?_
        exact k v _ H3 ⟨_, rfl, hn.drop hq (by omega)⟩ (g1.trans (Same.gr (s2.trans s3))) (S1.tw.same (s2.trans s3)) o3
      · have T2 := S1.of s2 S2
        refine q_when T2.sta (b := decide ((r : Int) < 3)) (by walk_at "ev") (fun hb H3 s3 S3 => ?_) fun hb H3 s3 S3 => ?_
        · have T3 := T2.of s3 S3
          refine qt_asg (i := 6) (P := fun x => ∃ v : W, x = .d (encP (q.1, v)) ∧ 1 ≤ v.length ∧ v.length ≤ 3 ∧ ∀ c ∈ v, c ∈ ([97, 98] : W)) T3 (et_tup ((eat_cons (et_x (x := .d (ds q.1)) (src rfl rfl)) (eat_one (et_call (xs := [.s ns, .v (.ref t.a), .d (ds [97, 98]), .d (.int 1), .d (.int 3)]) (by walk_at "ev") (.s (by decide) (by show 2 ≤ 1000000; decide) (by decide) (by decide) (by decide))))).imp ?_)) fun x σ4 H4 px g4 T4 => ?_
          · rintro _ ⟨_, _, rfl, rfl, _, rfl, v, rfl, h1, h2, h3⟩
            exact ⟨[ds q.1, ds v], rfl, by show 2 ≤ 1000; decide, v, rfl, by omega, by omega, h1⟩
          obtain ⟨v, rfl, hv1, hv3, hv⟩ := px
          refine s_ret T4.sta (x := .d (encS (s.take i ++ [(q.1, v)] ++ s.drop (i + 1)))) (EvX.is (ev_op (x := .d (.tuple ((s.take i ++ [(q.1, v)]).map encP))) (y := .d (.tuple ((s.drop (i + 1)).map encP))) (EvX.is (ev_op (x := .d (.tuple ((s.take i).map encP))) (y := .d (.tuple [encP (q.1, v)])) (EvX.is (ev_sl (lo := none) (hi := some (i : Int)) (x := .d (.tuple (s.map encP))) (by walk_at "ev") eo_none (eo_some (by walk_at "ev")) SlX.tm) (by rw [cut_take _ _ (by omega)]; rfl)) (by walk_at "ev") (rx_addT (by rw [List.length_map, List.length_take]; show _ + 1 ≤ _; omega))) (by rw [List.map_append]; rfl)) (EvX.is (ev_sl (lo := some ((i : Int) + 1)) (hi := none) (x := .d (.tuple (s.map encP))) (by walk_at "ev") (eo_some (by walk_at "ev")) eo_none SlX.tm) (by rw [cut_drop _ _ (by omega)]; rfl)) (rx_addT (by rw [List.length_map, List.length_map, List.length_append, List.length_take, List.length_drop]; simp; omega))) (by rw [← List.map_append])) fun w H5 s5 o5 => ?_
          exact k w _ H5 ⟨_, rfl, hn.put hq hv1 hv3 hv⟩ (((g1.trans (Same.gr (s2.trans s3))).trans g4).trans (Same.gr s5)) (T4.tw.same s5) o5
        · have T3 := T2.of s3 S3
          refine st_ret T3 ((et_call (xs := [.s ns, .v (.ref t.a), .d (ds l), .d (ds [97, 98]), .d (.int 2)]) (by walk_at "ev") (.mk hl0 hl2 (by decide) (by decide) (by decide) (by omega) (by show 2 ≤ 1000000; decide))).imp (P' := fun x => ∃ s' : Sc, x = .d (encS s') ∧ Nr l s') ?_) fun v x H4 px g4 w4 o4 => k v x H4 px ((g1.trans (Same.gr (s2.trans s3))).trans g4) w4 o4
          rintro _ ⟨s', rfl, m, hm⟩
          exact ⟨s', rfl, m.ok, m.lettersW_eq hasc, m.tgt, by omega⟩
/-! _law_key -/
inductive Ok__law_key : List DV → DV → Prop
  | mk {r : Option W} (h : ∀ w, r = some w → w.length < 999) : Ok__law_key [.d (encO r)] (.d (encL (keyO r)))
theorem sc__law_key : FnScope ["_law_word"] ["_law_word"] (defScope s__law_key) := ⟨rfl, rfl, rfl, by decide +kernel, rfl, by decide +kernel, by decide +kernel⟩
theorem c__law_key (T : Txt K mg) (d : ∃ f, DefAt K "_law_key" s__law_key f) (hm : Left K mg) : FnIs P w K mg base (L2N.CX P w) 1 "_law_key" ["_law_word"] (spP K Ok__law_key) := by
  refine def_ok d (fun f e => hm _ _ e) sc__law_key (fun _ _ _ _ _ _ us hl => match us, hl with | [_], _ => rfl) (fun xs h => ?_) (fun f cdv A outer s H vs E hr => ⟨_, (PSs.nox (pss_one (ps_ret (pe_ifExp (pt_cmpR op_isU (pv 0) pe_non (nomark _)) (pe_tupF (pa_cons pe_int (pa_cons (pe_strW []) pa_nil))) (pe_tupF (pa_cons (pe_callB (CallR.k (K := K) (r := rLenU) call_lenU rfl) (by rfl) T.b_len (by decide +kernel) (pa_cons (pv 0) pa_nil)) (pa_cons (pv 0) pa_nil))))))), fun M xs Q S h => ?_⟩)
  · rcases h with ⟨_, ⟨⟩⟩ | ⟨_, ⟨⟩⟩ <;> rfl
  · rcases h with ⟨y, hy, k⟩ | ⟨_, ⟨⟩, _⟩
    cases hy with
    | mk h =>
      rename_i r
      have S0 : Sta K M H _ [.d (encO r)] := S
      refine s_ret S0 (x := .d (encL (keyO r))) (ev_if (b := isNon (encO r)) (EvB.is (eb_test (ev_op (x := .d (encO r)) (y := .d .none) (by walk_at "ev") (by walk_at "ev") rx_isNon)) rfl) (fun hb => ?_) (fun hb => ?_)) k
      · cases r with
        | none => exact ev_tupD (xs := [.int 999, ds []]) (by walk_at "ev") (by show 2 ≤ 1000; decide)
        | some w => cases hb
      · cases r with
        | none => cases hb
        | some w =>
          have := h w rfl
          exact ev_tupD (xs := [.int (w.length : Int), ds w]) (ead_cons (ev_cb (xs := [.d (ds w)]) (by walk_at "ev") (rc_lenS (by omega))) (ead_cons (by walk_at "ev") ead_nil)) (by show 2 ≤ 1000; decide)
local macro_rules | `(tactic| walk_at "cl") => `(tactic| with_reducible apply Ok__law_key.mk)
end
local macro_rules | `(tactic| walk_at "cl") => `(tactic| with_reducible first | apply Ok_is_string.t | apply Ok_is_string.l)
local macro_rules | `(tactic| walk_at "cl") => `(tactic| with_reducible apply Ok_is_entry.mk)
local macro_rules | `(tactic| walk_at "cl") => `(tactic| with_reducible apply Ok_is_scheme.mk)
local macro_rules | `(tactic| walk_at "cl") => `(tactic| with_reducible apply Ok_letters_of.mk)
local macro_rules | `(tactic| walk_at "cl") => `(tactic| with_reducible apply Ok_longest.mk)
local macro_rules | `(tactic| walk_at "cl") => `(tactic| with_reducible apply Ok_write_table.mk)
local macro_rules | `(tactic| walk_at "cl") => `(tactic| with_reducible apply Ok_split.mk)
local macro_rules | `(tactic| walk_at "cl") => `(tactic| with_reducible apply Ok_mapped.mk)
local macro_rules | `(tactic| walk_at "cl") => `(tactic| with_reducible apply Ok_is_open.mk)
local macro_rules | `(tactic| walk_at "cl") => `(tactic| with_reducible apply Ok_feed.mk)
local macro_rules | `(tactic| walk_at "cl") => `(tactic| with_reducible apply Ok_run.mk)
local macro_rules | `(tactic| walk_at "cl") => `(tactic| with_reducible apply Ok_finish.mk)
local macro_rules | `(tactic| walk_at "cl") => `(tactic| with_reducible apply Ok_is_chain.mk)
local macro_rules | `(tactic| walk_at "cl") => `(tactic| with_reducible apply Ok_need_chain.mk)
local macro_rules | `(tactic| walk_at "cl") => `(tactic| with_reducible apply Ok_tables_of.mk)
local macro_rules | `(tactic| walk_at "cl") => `(tactic| with_reducible apply Ok_difference.mk)
local macro_rules | `(tactic| walk_at "cl") => `(tactic| with_reducible apply Ok__law_key.mk)
/-! law -/
noncomputable def dW (l : W) (A B : List Sc) : Option W := Classical.choose (finds_ex (differ A B) l)
theorem dW_ok (l : W) (A B : List Sc) : Finds (differ A B) l (dW l A B) := Classical.choose_spec (finds_ex (differ A B) l)
theorem dW_comm (l : W) (A B : List Sc) : dW l A B = dW l B A := by
  refine (dW_ok l A B).uniq ?_
  rw [differ_comm]; exact dW_ok l B A
theorem sc_law : FnScope ["_law_script", "_law_town", "_law_letters_here", "_law_one", "_law_two", "_law_three", "_law_behind", "_law_chains", "_law_scheme_here", "_law_chain", "_law_pairs", "_law_keys", "_law_first", "_law_then", "_law_key_here"] ["_law_script"] (defScope s_law) := ⟨rfl, rfl, rfl, by decide +kernel, rfl, by decide +kernel, by decide +kernel⟩
theorem c_law {P : Program} {w : World} {K : PySem.W.Frag} {mg : Str → Option Value} {fa : Addr} {TK : List NdefX.NTab} {cs : List (Addr × Addr)} (T : Txt K mg) (d : ∃ f, DefAt K "law" s_law f) (hm : Left K mg) (hfa : mg "law" = some (.ref fa)) (c__law_pick : ∀ (base : Heap), FnIs P w K mg base (L2N.CX P w) 2 "_law_pick" ["_law_script", "_law_town", "_law_some"] (spT K Ok__law_pick)) (c__law_scheme : ∀ (base : Heap), FnIs P w K mg base (L2N.CX P w) 4 "_law_scheme" ["_law_script", "_law_town", "_law_letters_here", "_law_targets", "_law_more"] (spT K Ok__law_scheme)) (c__law_near : ∀ (base : Heap), FnIs P w K mg base (L2N.CX P w) 5 "_law_near" ["_law_script", "_law_town", "_law_scheme_here", "_law_letters_here"] (spT K Ok__law_near)) (c__law_key : ∀ (base : Heap), FnIs P w K mg base (L2N.CX P w) 1 "_law_key" ["_law_word"] (spP K Ok__law_key)) (c_difference : ∀ (base : Heap), (∀ p ∈ cs, TabB base mg p.1 p.2) → FnIs P w K mg base (L2N.CX P w) 43 "difference" ["chain", "other"] (spTab TK K Ok_difference (Bad_difference mg))) (c__law_draw : ∀ (base : Heap), FnIs P w K mg base (L2N.CX P w) 1 "_law_draw" ["_law_script", "_law_town", "_law_many"] (spT K Ok__law_draw)) (c_is_chain : ∀ (base : Heap), FnIs P w K mg base (L2N.CX P w) 4 "is_chain" ["value"] (spP K Ok_is_chain)) : ∃ fd : FuncData, (∀ (s : Shared) (u : Value), BindsTo s fd ⟨[u], []⟩ [("_law_script", u)]) ∧ ∀ base : Heap, K.In base → base.Ns mainGlobals mg → (∀ p ∈ cs, TabB base mg p.1 p.2) → FnOk P w K mg base (L2N.CX P w) 100 fa fd ["_law_script"] (spLawT K TK) := by
  refine law_okT d hm hfa sc_law (fun _ _ _ _ _ _ _ _ => .of_eq rfl) fun base hK hN hcs f cdv A outer s H vs E hr => ?_
  replace c__law_pick := c__law_pick base
  replace c__law_scheme := c__law_scheme base
  replace c__law_near := c__law_near base
  replace c__law_key := c__law_key base
  replace c_difference := c_difference base hcs
  replace c__law_draw := c__law_draw base
  replace c_is_chain := c_is_chain base
  refine ⟨_, (PSs.nox (pss_cons (ps_set (i := 1) sc_law.nd rfl (Or.inr rfl) (pe_lst (pa_cons pe_int (pa_cons pe_int pa_nil))))
    (pss_cons (ps_set (i := 2) sc_law.nd rfl (Or.inl rfl) (pe_callF c__law_pick (hr.mono (by decide)) passN (pa_cons (pv 0) (pa_cons (pv 1) (pa_cons (pe_lst (pa_cons (pe_strW [97]) (pa_cons (pe_strW [97, 98]) (pa_cons (pe_strW [97, 98]) pa_nil)))) pa_nil)))))
    (pss_cons (ps_set (i := 3) sc_law.nd rfl (Or.inl rfl) (pe_callF c__law_scheme (hr.mono (by decide)) passN (pa_cons (pv 0) (pa_cons (pv 1) (pa_cons (pv 2) (pa_cons (pe_strW [97, 98]) (pa_cons pe_int pa_nil)))))))
    (pss_cons (ps_set (i := 4) sc_law.nd rfl (Or.inl rfl) (pe_callF c__law_near (hr.mono (by decide)) passN (pa_cons (pv 0) (pa_cons (pv 1) (pa_cons (pv 3) (pa_cons (pv 2) pa_nil))))))
    (pss_cons (ps_set (i := 5) sc_law.nd rfl (Or.inl rfl) (pe_callF c__law_near (hr.mono (by decide)) passN (pa_cons (pv 0) (pa_cons (pv 1) (pa_cons (pv 4) (pa_cons (pv 2) pa_nil))))))
    (pss_cons (ps_set (i := 6) sc_law.nd rfl (Or.inr rfl) (pe_callF c__law_scheme (hr.mono (by decide)) passN (pa_cons (pv 0) (pa_cons (pv 1) (pa_cons (pe_strW [97, 98]) (pa_cons (pe_strW [112, 113]) (pa_cons pe_int pa_nil)))))))
    (pss_cons (ps_setLc (i := 7) (own := [("_law_scheme_here", 8)]) rfl sc_law.nd rfl rfl (sw_true rfl rfl rfl (by decide +kernel)) (ki_seq (K := K) rfl (pe_tupF (pa_cons (pv 3) (pa_cons (pv 4) (pa_cons (pv 5) pa_nil))))) (blkOk_by (N := ["_law_script", "_law_town", "_law_letters_here", "_law_one", "_law_two", "_law_three", "_law_behind", "_law_chains", "_law_scheme_here", "_law_chain", "_law_pairs", "_law_keys", "_law_first", "_law_then", "_law_key_here"]) (sc := defScope s_law) (by decide +kernel)) (fun _ _ _ _ _ => (pg_name (i := 8) sc_law.nd rfl (Or.inl rfl))) (fun _ _ _ _ _ => pts_nil) (fun _ _ _ _ _ => (pe_ifExp (pt_cmpR (op_eqQ (by exact hr.units)) (pe_callF c__law_draw (hr.mono (by decide)) passN (pa_cons (pv 0) (pa_cons (pv 1) (pa_cons pe_int pa_nil)))) pe_int (nomark _)) (pe_tupF (pa_cons (pv 8) (pa_cons (pv 6) pa_nil))) (pe_tupF (pa_cons (pv 8) pa_nil)))))
    (pss_cons (ps_if (pt_not (kt_truth (K := K) rfl (pe_callB (CallR.k (K := K) (r := rAll) (cr_all rfl) rfl) (by rfl) T.b_all (by decide +kernel) (pa_cons (pe_lc (own := [("_law_chain", 9)]) rfl sc_law.nd  (ki_seq (K := K) rfl (pv 7)) (blkOk_by (N := ["_law_script", "_law_town", "_law_letters_here", "_law_one", "_law_two", "_law_three", "_law_behind", "_law_chains", "_law_scheme_here", "_law_chain", "_law_pairs", "_law_keys", "_law_first", "_law_then", "_law_key_here"]) (sc := defScope s_law) (by decide +kernel)) (fun _ _ _ _ _ => (pg_name (i := 9) sc_law.nd rfl (Or.inl rfl))) (fun _ _ _ _ _ => pts_nil) (fun _ _ _ _ _ => (pe_callF c_is_chain (hr.mono (by decide)) passN (pa_cons (pv 9) pa_nil)))) pa_nil)) (by intro _; rfl))) (pss_one (ps_ret pe_bl)) pss_nil)
    (pss_cons (ps_set (i := 10) sc_law.nd rfl (Or.inl rfl) (pe_tupF (pa_cons (pe_tupF (pa_cons (k_sub (K := K) (by exact hr.units) rfl (pv 7) pe_int (by intro _ _; rfl)) (pa_cons (k_sub (K := K) (by exact hr.units) rfl (pv 7) pe_int (by intro _ _; rfl)) pa_nil))) (pa_cons (pe_tupF (pa_cons (k_sub (K := K) (by exact hr.units) rfl (pv 7) pe_int (by intro _ _; rfl)) (pa_cons (k_sub (K := K) (by exact hr.units) rfl (pv 7) pe_int (by intro _ _; rfl)) pa_nil))) (pa_cons (pe_tupF (pa_cons (k_sub (K := K) (by exact hr.units) rfl (pv 7) pe_int (by intro _ _; rfl)) (pa_cons (k_sub (K := K) (by exact hr.units) rfl (pv 7) pe_int (by intro _ _; rfl)) pa_nil))) pa_nil)))))
    (pss_cons (ps_setLc (i := 11) (own := [("_law_first", 12), ("_law_then", 13)]) rfl sc_law.nd rfl rfl (sw_true rfl rfl rfl (by decide +kernel)) (ki_seq (K := K) rfl (pv 10)) (blkOk_by (N := ["_law_script", "_law_town", "_law_letters_here", "_law_one", "_law_two", "_law_three", "_law_behind", "_law_chains", "_law_scheme_here", "_law_chain", "_law_pairs", "_law_keys", "_law_first", "_law_then", "_law_key_here"]) (sc := defScope s_law) (by decide +kernel)) (fun _ _ _ _ _ => (kg_tup (K := K) (n := 2) rfl rfl (pgs_cons (pg_name (i := 12) sc_law.nd rfl (Or.inl rfl)) (pgs_cons (pg_name (i := 13) sc_law.nd rfl (Or.inl rfl)) pgs_nil)))) (fun _ _ _ _ _ => pts_nil) (fun _ _ _ _ _ => (pe_callF c__law_key (hr.mono (by decide)) passN (pa_cons (pe_callF c_difference (hr.mono (by decide)) passN (pa_cons (pv 12) (pa_cons (pv 13) pa_nil))) pa_nil))))
    (pss_cons (ps_if (pt_cmpR (op_neQ (by exact hr.units)) (k_sub (K := K) (by exact hr.units) rfl (pe_callB (call_sortedU rfl (by exact hr.units)) (by rfl) T.b_sorted (by decide +kernel) (pa_cons (pv 11) pa_nil)) pe_int (by intro _ _; rfl)) (k_sub (K := K) (by exact hr.units) rfl (pe_callB (call_sortedU rfl (by exact hr.units)) (by rfl) T.b_sorted (by decide +kernel) (pa_cons (pv 11) pa_nil)) pe_int (by intro _ _; rfl)) (nomark _)) (pss_one (ps_ret pe_bl)) pss_nil)
    (pss_cons (ps_for PassesOwn.never rfl (ki_zipM (K := K) rfl (by rfl) T.b_zip (pa_cons (pv 10) (pa_cons (pv 11) pa_nil))) (kg_tup (K := K) (n := 2) rfl rfl (pgs_cons (kg_tup (K := K) (n := 2) rfl rfl (pgs_cons (pg_name (i := 12) sc_law.nd rfl (Or.inl rfl)) (pgs_cons (pg_name (i := 13) sc_law.nd rfl (Or.inl rfl)) pgs_nil))) (pgs_cons (pg_name (i := 14) sc_law.nd rfl (Or.inl rfl)) pgs_nil))) (pss_one (ps_if (pt_cmpR (op_neQ (by exact hr.units)) (pe_callF c__law_key (hr.mono (by decide)) passN (pa_cons (pe_callF c_difference (hr.mono (by decide)) passN (pa_cons (pv 13) (pa_cons (pv 12) pa_nil))) pa_nil)) (pv 14) (nomark _)) (pss_one (ps_ret pe_bl)) pss_nil)))
    (pss_one (ps_ret (pe_cmpR op_isU (pe_callF c_difference (hr.mono (by decide)) passN (pa_cons (k_sub (K := K) (by exact hr.units) rfl (pv 7) pe_int (by intro _ _; rfl)) (pa_cons (k_sub (K := K) (by exact hr.units) rfl (pv 7) pe_int (by intro _ _; rfl)) pa_nil))) pe_non (nomark _))))))))))))))))), fun ns Q hz S tb0 k => ?_⟩
  ·
    have S0 : Sta K (TK.map (·.1)) H _ [.s ns, .z, .z, .z, .z, .z, .z, .z, .z, .z, .z, .z, .z, .z, .z] := S
    refine q_newL (xs := [.int 0, .int 0]) S0 (ead_cons (by walk_at "ev") (ead_cons (by walk_at "ev") ead_nil)) (by decide) fun t σ1 H1 hp0 np0 sh1 s1 S1 m1 => ?_
    have T1 : StaT K (t :: TK.map (·.1)) (twN t TK) H1 σ1 _ := ⟨S1, fun b hb => hb, m1.town2, tb0.ext s1⟩
    refine qt_asg (i := 2) T1 (P := fun x => ∃ l : W, x = .d (ds l) ∧ l ∈ ([[97], [97, 98]] : List W)) ((et_call (xs := [.s ns, .v (.ref t), .d (.list (([[97], [97, 98], [97, 98]] : List W).map ds))]) (by simp only [List.map_cons, List.map_nil]; walk_at "ev") (.l (by decide) (by show 3 ≤ _; decide))).imp ?_) fun x σ2 H2 px g2 T2 => ?_
    · rintro _ ⟨y, hy, rfl⟩
      obtain ⟨l, hl, rfl⟩ := List.mem_map.mp hy
      have key : ∀ l ∈ ([[97], [97, 98], [97, 98]] : List W), l ∈ ([[97], [97, 98]] : List W) := by decide
      exact ⟨l, rfl, key l hl⟩
    obtain ⟨l, rfl, hl⟩ := px
    have key : ∀ l ∈ ([[97], [97, 98]] : List W), l ≠ [] ∧ (∀ c ∈ l, c ∈ lowers) ∧ l.length ≤ 2 ∧ l.Pairwise (· < ·) := by decide
    obtain ⟨hl0, hl2, hl3, hasc⟩ := key l hl
    refine qt_asg (i := 3) T2 (et_call (xs := [.s ns, .v (.ref t), .d (ds l), .d (ds [97, 98]), .d (.int 2)]) (by walk_at "ev") (.mk hl0 hl2 (by decide) (by decide) (by decide) (by omega) (by show 2 ≤ 1000000; decide))) fun x σ3 H3 px g3 T3 => ?_
    obtain ⟨a1, rfl, ma1, la1⟩ := px
    have n1 : Nr l a1 := ⟨ma1.ok, ma1.lettersW_eq hasc, ma1.tgt, by omega⟩
    refine qt_asg (i := 4) T3 (et_call (xs := [.s ns, .v (.ref t), .d (encS a1), .d (ds l)]) (by walk_at "ev") (.mk n1 hl)) fun x σ4 H4 px g4 T4 => ?_
    obtain ⟨a2, rfl, n2⟩ := px
    refine qt_asg (i := 5) T4 (et_call (xs := [.s ns, .v (.ref t), .d (encS a2), .d (ds l)]) (by walk_at "ev") (.mk n2 hl)) fun x σ5 H5 px g5 T5 => ?_
    obtain ⟨a3, rfl, n3⟩ := px
    refine qt_asg (i := 6) T5 (et_call (xs := [.s ns, .v (.ref t), .d (ds [97, 98]), .d (ds [112, 113]), .d (.int 2)]) (by walk_at "ev") (.mk (by decide) (by decide) (by decide) (by decide) (by decide) (by decide) (by show 2 ≤ 1000000; decide))) fun x σ6 H6 px g6 T6 => ?_
    obtain ⟨b, rfl, mb, lb⟩ := px
    have hb4 : b.length ≤ 4 := by simp at lb; omega
    refine qt_asg (i := 7) T6 (P := fun x => ∃ c1 c2 c3 : List Sc, x = .d (.list [encC c1, encC c2, encC c3]) ∧ (c1 = [a1] ∨ c1 = [a1, b]) ∧ (c2 = [a2] ∨ c2 = [a2, b]) ∧ (c3 = [a3] ∨ c3 = [a3, b])) (et_lc (Py := fun ys : List Sc => ys = [a1, a2, a3]) (R := fun s d => ∃ c : List Sc, d = encC c ∧ (c = [s] ∨ c = [s, b])) (it := fun s => .d (encS s)) ((eit_pure (ei_seq (x := .d (.tuple [encS a1, encS a2, encS a3])) (by walk_at "ev") SeqX.t)).imp ?_) (fun ys x _ _ => g_name) (.mk rfl) ?_ ?_ ?_) fun x σ7 H7 px g7 T7 => ?_
    · rintro _ rfl; exact ⟨_, rfl, rfl⟩
    · rintro q ys s _ _
      refine et_if (R := fun _ => True) (ebt_test (et_op (P := fun x => ∃ b, x = .d (.bool b)) (et_call (xs := [.s ns, .v (.ref t), .d (.int 3)]) (by walk_at "ev") (.mk (by decide) (by decide))) (et_x (x := .d (.int 0)) (by walk_at "ev")) ?_)) (fun _ => et_pure (x := .d (.tuple [encS s, encS b])) (by walk_at "ev") ⟨_, rfl, [s, b], rfl, .inr rfl⟩) (fun _ => et_pure (x := .d (.tuple [encS s])) (by walk_at "ev") ⟨_, rfl, [s], rfl, .inl rfl⟩)
      rintro x y ⟨r, rfl, _⟩ rfl
      exact ⟨_, ⟨_, rfl⟩, rx_eqI⟩
    · rintro ys rfl; show 3 ≤ 1000000; decide
    · rintro ys zs rfl p
      cases p with
      | cons h1 p =>
        cases p with
        | cons h2 p =>
          cases p with
          | cons h3 p =>
            cases p
            obtain ⟨c1, rfl, h1⟩ := h1
            obtain ⟨c2, rfl, h2⟩ := h2
            obtain ⟨c3, rfl, h3⟩ := h3
            exact ⟨c1, c2, c3, rfl, h1, h2, h3⟩
    obtain ⟨c1, c2, c3, rfl, hc1, hc2, hc3⟩ := px
    have mk : ∀ {a : Sc} {c : List Sc}, Nr l a → (c = [a] ∨ c = [a, b]) → Chain c ∧ c ≠ [] ∧ (∀ s, c.head? = some s → lettersW s = l) ∧ prodN c ≤ 25 := fun {a c} n h => by
      have pa : 1 + a.length ≤ 5 := by have := n.few; omega
      have pb : 1 + b.length ≤ 5 := by omega
      rcases h with rfl | rfl
      · refine ⟨single_chain n.ok, by simp, fun s e => by cases e; exact n.ls, ?_⟩
        show (1 + a.length) * 1 ≤ 25
        omega
      · refine ⟨⟨by simp [n.ok, mb.ok], by simp, fun s1 s2 e => ?_⟩, by simp, fun s e => by cases e; exact n.ls, ?_⟩
        · cases e
          unfold fits2
          refine List.all_eq_true.mpr fun p hp => List.all_eq_true.mpr fun c hc => decide_eq_true ?_
          exact letters_mem.mpr ⟨(mb.lets c).mpr (n.tgt p hp c hc), rfl⟩
        · show (1 + a.length) * ((1 + b.length) * 1) ≤ 25
          rw [Nat.mul_one]
          exact Nat.le_trans (Nat.mul_le_mul pa pb) (by decide)
    obtain ⟨k1, e1, h1, p1⟩ := mk n1 hc1
    obtain ⟨k2, e2, h2, p2⟩ := mk n2 hc2
    obtain ⟨k3, e3, h3, p3⟩ := mk n3 hc3
    have hd : ∀ {A B : List Sc}, (Chain A ∧ A ≠ [] ∧ (∀ s, A.head? = some s → lettersW s = l) ∧ prodN A ≤ 25) → (Chain B ∧ B ≠ [] ∧ (∀ s, B.head? = some s → lettersW s = l) ∧ prodN B ≤ 25) → Ok_difference [.d (encC A), .d (encC B)] (.d (encO (dW l A B))) ∧ ∀ w, dW l A B = some w → w.length < 999 := fun {A B} hA hB => by
      have hN : prodN A * prodN B ≤ 625 := Nat.le_trans (Nat.mul_le_mul hA.2.2.2 hB.2.2.2) (by decide)
      refine ⟨.mk hA.1 hB.1 (.inl hA.2.1) hA.2.2.1 hB.2.2.1 (by omega) (dW_ok l A B), fun w e => ?_⟩
      have f := dW_ok l A B
      rw [e] at f
      have := differ_len (hA.1.tot fun s e c hc => lettersW_mem.mp (by rw [hA.2.2.1 s e]; exact hc)) (hB.1.tot fun s e c hc => lettersW_mem.mp (by rw [hB.2.2.1 s e]; exact hc)) (show Least (differ A B) l w from f)
      omega
    have q1 := mk n1 hc1
    have q2 := mk n2 hc2
    have q3 := mk n3 hc3
    have d12 := hd q1 q2
    have d23 := hd q2 q3
    have d13 := hd q1 q3
    obtain ⟨kx, kz, hks⟩ := key_two (dW_ok l c1 c2) (dW_ok l c2 c3) (dW_ok l c1 c3) d12.2 d23.2 d13.2
    clear hc1 hc2 hc3
    refine q_when T7.sta (b := false) ?_ (fun hb => by cases hb) fun _ H8 s8 S8 => ?_
    · refine EvB.is (eb_not (b := true) (EvB.is (eb_truB (ev_cb (xs := [.d (.list ([c1, c2, c3].map fun c => .bool (isChain (encC c))))]) (ea_cons (ev_lcA (its := [c1, c2, c3]) (it := fun c => .d (encC c)) (f := fun c => .bool (isChain (encC c))) (js := [9]) (ei_seq (x := .d (.list [encC c1, encC c2, encC c3])) (by walk_at "ev") SeqX.l) (fun x _ => g_name) (.mk rfl) (fun q c hc => ?_) (by show 3 ≤ 1000000; decide)) ea_nil) rc_all)) ?_)) rfl
      · refine ev_call (by walk_at "ev") (.mk ?_)
        simp only [List.mem_cons, List.not_mem_nil, or_false] at hc
        rcases hc with rfl | rfl | rfl
        · exact k1.small
        · exact k2.small
        · exact k3.small
      · simp [isChain_enc k1, isChain_enc k2, isChain_enc k3]
    have ch : ∀ {c : Cz} {ρ : List DV} {j : Int} {y : D}, ρ[7]? = some (.d (.list [encC c1, encC c2, encC c3])) → atI [encC c1, encC c2, encC c3] j = some y → EvX c (tSub c.K (tVar 7) (tC (.int j))) ρ (.d y) := fun h e => ev_sub (x := .d (.list [encC c1, encC c2, encC c3])) (ev_vd h) ev_int (.l e)
    refine q_asg (i := 10) S8 (x := .d (.tuple ([(c1, c2), (c2, c3), (c1, c3)].map encCC))) (ev_tupD (xs := [encCC (c1, c2), encCC (c2, c3), encCC (c1, c3)]) (ead_cons (ev_tupD (xs := [encC c1, encC c2]) (ead_cons (ch rfl rfl) (ead_cons (ch rfl rfl) ead_nil)) (by show 2 ≤ 1000; decide)) (ead_cons (ev_tupD (xs := [encC c2, encC c3]) (ead_cons (ch rfl rfl) (ead_cons (ch rfl rfl) ead_nil)) (by show 2 ≤ 1000; decide)) (ead_cons (ev_tupD (xs := [encC c1, encC c3]) (ead_cons (ch rfl rfl) (ead_cons (ch rfl rfl) ead_nil)) (by show 2 ≤ 1000; decide)) ead_nil))) (by show 3 ≤ 1000; decide)) fun σ9 H9 s9 S9 => ?_
    have T9 : StaT K (t :: TK.map (·.1)) (twN t TK) H9 σ9 _ := (T7.of s8 S8).of s9 S9
    have hpair : ∀ p ∈ [(c1, c2), (c2, c3), (c1, c3)], (Ok_difference [.d (encC p.1), .d (encC p.2)] (.d (encO (dW l p.1 p.2))) ∧ ∀ w, dW l p.1 p.2 = some w → w.length < 999) ∧ Ok_difference [.d (encC p.2), .d (encC p.1)] (.d (encO (dW l p.1 p.2))) := fun p hp => by
      simp only [List.mem_cons, List.not_mem_nil, or_false] at hp
      rcases hp with rfl | rfl | rfl
      · exact ⟨d12, by rw [dW_comm]; exact (hd q2 q1).1⟩
      · exact ⟨d23, by rw [dW_comm]; exact (hd q3 q2).1⟩
      · exact ⟨d13, by rw [dW_comm]; exact (hd q3 q1).1⟩
    refine qt_asg (i := 11) T9 (P := (· = .d (.list ([(c1, c2), (c2, c3), (c1, c3)].map fun p => encL (keyO (dW l p.1 p.2)))))) (et_lc (Py := fun ys : List (List Sc × List Sc) => ys = [(c1, c2), (c2, c3), (c1, c3)]) (R := fun p d => d = encL (keyO (dW l p.1 p.2))) (it := fun p => .d (encCC p)) (js := [12, 13]) ((eit_pure (ei_seq (x := .d (.tuple ([(c1, c2), (c2, c3), (c1, c3)].map encCC))) (by walk_at "ev") SeqX.t)).imp ?_) (fun ys p _ _ => g_tup (xs := [encC p.1, encC p.2]) (gs_cons g_name (gs_cons g_name gs_nil))) (.mk rfl) ?_ ?_ ?_) fun x σ10 H10 px g10 T10 => ?_
    · rintro _ rfl; exact ⟨_, rfl, by rw [List.map_map]; rfl⟩
    · rintro q ys p rfl hp
      obtain ⟨⟨o1, o2⟩, _⟩ := hpair p hp
      exact et_callP (eat_one (et_callTab (T := TK) (x := .d (encO (dW l p.1 p.2))) (Pr := (· = .d (encO (dW l p.1 p.2)))) (by walk_at "ev") o1 rfl)) fun xs hx => by
        obtain ⟨_, rfl, rfl⟩ := hx
        exact ⟨_, .mk o2, _, rfl, rfl⟩
    · rintro ys rfl; show 3 ≤ 1000000; decide
    · rintro ys zs rfl p
      have : ∀ {ys : List (List Sc × List Sc)} {zs : List D}, Paired (fun p d => d = encL (keyO (dW l p.1 p.2))) ys zs → zs = ys.map fun p => encL (keyO (dW l p.1 p.2)) := fun {ys zs} p => by
        induction p with
        | nil => rfl
        | cons h _ ih => rw [h, ih]; rfl
      rw [this p]
    subst px
    refine q_when T10.sta (b := false) ?_ (fun hb => by cases hb) fun _ H11 s11 S11 => ?_
    · have so : ∀ {c : Cz} {ρ : List DV} {ta : TA}, EvA c ta ρ [.d (.list ([keyO (dW l c1 c2), keyO (dW l c2 c3), keyO (dW l c1 c3)].map encL))] → EvX c (tCB rSortU ta) ρ (.d (.list ([kx, kx, kz].map encL))) := fun h => by
        rw [← hks]; exact ev_cb h rc_sortP
      exact eb_same (x := encL kx) (y := encL kx) (ev_sub (x := .d (.list ([kx, kx, kz].map encL))) (y := .d (.int 0)) (so (by walk_at "ev")) (by walk_at "ev") (.l rfl)) (ev_sub (x := .d (.list ([kx, kx, kz].map encL))) (y := .d (.int 1)) (so (by walk_at "ev")) (by walk_at "ev") (.l rfl)) rfl rfl (by show 1 ≤ 60; decide)
    have T11 := T10.of s11 S11
    refine q_for (ys := [(c1, c2), (c2, c3), (c1, c3)]) (it := fun p => .pr (encCC p) (encL (keyO (dW l p.1 p.2)))) (js := [12, 13, 14]) (up := fun p ρ => ((ρ.set 12 (.d (encC p.1))).set 13 (.d (encC p.2))).set 14 (.d (encL (keyO (dW l p.1 p.2))))) T11.sta (EvI.is (ei_zipM (xs := [(c1, c2), (c2, c3), (c1, c3)].map encCC) (ys := [(c1, c2), (c2, c3), (c1, c3)].map fun p => encL (keyO (dW l p.1 p.2))) (by walk_at "ev")) rfl) (fun p hp ρ' => g_pair (gs_cons (g_tup (xs := [encC p.1, encC p.2]) (gs_cons g_name (gs_cons g_name gs_nil))) (gs_cons g_name gs_nil)))
      (fun i ρ' H' => (∃ a b' c, ρ' = [.s ns, .v (.ref t), .d (ds l), .d (encS a1), .d (encS a2), .d (encS a3), .d (encS b), .d (.list [encC c1, encC c2, encC c3]), .z, .z, .d (.tuple ([(c1, c2), (c2, c3), (c1, c3)].map encCC)), .d (.list ([(c1, c2), (c2, c3), (c1, c3)].map fun p => encL (keyO (dW l p.1 p.2)))), a, b', c]) ∧ TownAt (twN t TK) H') (fun H12 s12 => ⟨⟨_, _, _, rfl⟩, T11.tw.same s12⟩) ?_ ?_
    · rintro i p σ' ρ' H' H12 Hb hi sb sm ⟨⟨a, b', c, rfl⟩, tw⟩ s12 S12
      obtain ⟨⟨o1, o2⟩, o3⟩ := hpair p (List.mem_of_getElem? hi)
      have T12 : StaT K (t :: TK.map (·.1)) (twN t TK) H12 σ' _ := ⟨S12, T11.tm, tw.same s12⟩
      refine st_if T12 (ebt_testB (b := false) (et_op (Pa := (· = .d (encL (keyO (dW l p.1 p.2))))) (Pb := (· = .d (encL (keyO (dW l p.1 p.2))))) (et_callP (eat_one (et_callTab (T := TK) (x := .d (encO (dW l p.1 p.2))) (Pr := (· = .d (encO (dW l p.1 p.2)))) (by walk_at "ev") o3 rfl)) fun xs hx => by
        obtain ⟨_, rfl, rfl⟩ := hx
        exact ⟨_, .mk o2, rfl⟩) (et_x (by walk_at "ev")) fun x y ex ey => ⟨_, rfl, by subst ex ey; exact rx_neS rfl (by show 1 ≤ 60; decide)⟩)) (fun hb => by cases hb) fun _ H13 g13 T13 => ⟨_, sm.trans ((Same.hid s12).trans (Gr.hid g13 T11.tm)), T13.sta, ⟨_, _, _, rfl⟩, T13.tw⟩
    · rintro σ' ρ' H' sm S12 ⟨⟨a, b', c, rfl⟩, tw⟩
      have T12 : StaT K (t :: TK.map (·.1)) (twN t TK) H' σ' _ := ⟨S12, T11.tm, tw⟩
      have e0 : dW l c1 c1 = none := (dW_ok l c1 c1).uniq (finds_self c1 l)
      refine st_ret (P := (· = .d (.bool true))) T12 (et_op (Pa := (· = .d (encO none))) (Pb := (· = .d .none)) (et_callTab (T := TK) (x := .d (encO none)) (ea_cons (ch rfl rfl) (ea_cons (ch rfl rfl) ea_nil)) (by have := (hd q1 q1).1; rw [e0] at this; exact this) rfl) (et_x (by walk_at "ev")) fun x y ex ey => ⟨_, rfl, by subst ex ey; exact rx_isNon (d := .none)⟩) fun v x H13 px g13 w13 o13 => ?_
      subst px
      obtain rfl := dq_bool o13
      exact k _

theorem dM_mk {K : PySem.W.Frag} {h : Heap} {f0 c0 : Addr} (m0 : MkAt K h "smallest_difference" s_smallest_difference f0 c0)  : ∃ f0 c0, MkAt K h "smallest_difference" s_smallest_difference f0 c0 := ⟨f0, c0, m0⟩
theorem all_mk {l : PySem.W.OpenLaw} {w : World} {K : PySem.W.Frag} {h : Heap} {mg : Str → Option Value} {fa : Addr} (X : K.In h) (G : h.Ns mainGlobals mg) (hfa : mg "law" = some (.ref fa))
    (d_is_string : ∃ f, DefAt K "is_string" s_is_string f)
    (d_is_entry : ∃ f, DefAt K "is_entry" s_is_entry f)
    (d_is_scheme : ∃ f, DefAt K "is_scheme" s_is_scheme f)
    (d_letters_of : ∃ f, DefAt K "letters_of" s_letters_of f)
    (d_longest : ∃ f, DefAt K "longest" s_longest f)
    (d_write_table : ∃ f, DefAt K "write_table" s_write_table f)
    (d_split : ∃ f, DefAt K "split" s_split f)
    (d_mapped : ∃ f, DefAt K "mapped" s_mapped f)
    (d_is_open : ∃ f, DefAt K "is_open" s_is_open f)
    (d_feed : ∃ f, DefAt K "feed" s_feed f)
    (d_run : ∃ f, DefAt K "run" s_run f)
    (d_finish : ∃ f, DefAt K "finish" s_finish f)
    (d_smallest : ∃ f, DefAt K "smallest" s_smallest f)
    (d_is_chain : ∃ f, DefAt K "is_chain" s_is_chain f)
    (d_need_chain : ∃ f, DefAt K "need_chain" s_need_chain f)
    (d_tables_of : ∃ f, DefAt K "tables_of" s_tables_of f)
    (d_difference : ∃ f, DefAt K "difference" s_difference f)
    (d__law_draw : ∃ f, DefAt K "_law_draw" s__law_draw f)
    (d__law_pick : ∃ f, DefAt K "_law_pick" s__law_pick f)
    (d__law_string : ∃ f, DefAt K "_law_string" s__law_string f)
    (d__law_scheme : ∃ f, DefAt K "_law_scheme" s__law_scheme f)
    (d__law_near : ∃ f, DefAt K "_law_near" s__law_near f)
    (d__law_key : ∃ f, DefAt K "_law_key" s__law_key f)
    (d_law : ∃ f, DefAt K "law" s_law f)
    (dM : ∃ f0 c0, MkAt K h "smallest_difference" s_smallest_difference f0 c0)
    (b_isinstance : PySem.W.nsIn K mainGlobals "isinstance" = some none)
    (b_str : PySem.W.nsIn K mainGlobals "str" = some none)
    (b_all : PySem.W.nsIn K mainGlobals "all" = some none)
    (b_len : PySem.W.nsIn K mainGlobals "len" = some none)
    (b_tuple : PySem.W.nsIn K mainGlobals "tuple" = some none)
    (b_zip : PySem.W.nsIn K mainGlobals "zip" = some none)
    (b_range : PySem.W.nsIn K mainGlobals "range" = some none)
    (b_min : PySem.W.nsIn K mainGlobals "min" = some none)
    (b_dict : PySem.W.nsIn K mainGlobals "dict" = some none)
    (b_any : PySem.W.nsIn K mainGlobals "any" = some none)
    (b_sorted : PySem.W.nsIn K mainGlobals "sorted" = some none)
    (g_PART : ∃ t, PySem.W.nsIn K mainGlobals "PART" = some (some (.int 3 t)))
    (g_LETTERS : ∃ t, PySem.W.nsIn K mainGlobals "LETTERS" = some (some (.str (sw lowers) t)))
    (g_ENTRIES : ∃ t, PySem.W.nsIn K mainGlobals "ENTRIES" = some (some (.int 10 t)))
    (x_InvalidChain : ∃ C : Addr, PySem.W.nsIn K mainGlobals "InvalidChain" = some (some (.ref C)) ∧ PySem.W.excIn K C [.type "ValueError", .type "Exception", .type "BaseException", .type "object"] "ValueError.__new__" = true ∧ PySem.W.keepIn K (.ref C) = true ∧ PySem.W.subIn K (.ref C) (.type "BaseException") = some true ∧ PySem.W.typeIn K (.ref C) = some (.type "type") ∧ PySem.W.isClsIn K C = true) :
    LawAtS l w K (L2N.CX l.prog w) 100 63 "_law_script" mg fa h := by
  have hm : Left K mg := left_of X G
  have hx_InvalidChain : ExcT K mg "InvalidChain" := let ⟨C, a, q, k, b, t, i⟩ := x_InvalidChain; ExcT.of hm a q k b t i
  have T : Txt K mg := {
    b_isinstance := hm _ _ b_isinstance
    b_str := hm _ _ b_str
    b_all := hm _ _ b_all
    b_len := hm _ _ b_len
    b_tuple := hm _ _ b_tuple
    b_zip := hm _ _ b_zip
    b_range := hm _ _ b_range
    b_min := hm _ _ b_min
    b_dict := hm _ _ b_dict
    b_any := hm _ _ b_any
    b_sorted := hm _ _ b_sorted
    g_PART := (g_PART).imp fun t e => hm _ _ e
    g_LETTERS := (g_LETTERS).imp fun t e => hm _ _ e
    g_ENTRIES := (g_ENTRIES).imp fun t e => hm _ _ e
    x_InvalidChain := hx_InvalidChain }
  obtain ⟨f0, c0, M0⟩ := dM
  let TK : List NdefX.NTab := [(tabP K c0, nmT s_smallest_difference "smallest_difference.<locals>.")]
  let cs : List (Addr × Addr) := [(c0, tabP K c0)]
  have c_is_string := fun base : Heap => Tx.c_is_string (P := l.prog) (w := w) (base := base) T d_is_string hm
  have c_letters_of := fun base : Heap => Tx.c_letters_of (P := l.prog) (w := w) (base := base) T d_letters_of hm
  have c_longest := fun base : Heap => Tx.c_longest (P := l.prog) (w := w) (base := base) T d_longest hm
  have c_write_table := fun base : Heap => Tx.c_write_table (P := l.prog) (w := w) (base := base) T d_write_table hm
  have c_is_open := fun base : Heap => Tx.c_is_open (P := l.prog) (w := w) (base := base) T d_is_open hm
  have c__law_draw := fun base : Heap => Tx.c__law_draw (P := l.prog) (w := w) (base := base) T d__law_draw hm
  have c__law_key := fun base : Heap => Tx.c__law_key (P := l.prog) (w := w) (base := base) T d__law_key hm
  have c_is_entry := fun base : Heap => Tx.c_is_entry (P := l.prog) (w := w) (base := base) T d_is_entry hm (c_is_string base)
  have c_split := fun base : Heap => Tx.c_split (P := l.prog) (w := w) (base := base) T d_split hm (c_longest base)
  have c_feed := fun base : Heap => Tx.c_feed (P := l.prog) (w := w) (base := base) T d_feed hm (c_is_open base) (c_longest base)
  have c_tables_of := fun base : Heap => Tx.c_tables_of (P := l.prog) (w := w) (base := base) T d_tables_of hm (c_write_table base)
  have c__law_pick := fun base : Heap => Tx.c__law_pick (P := l.prog) (w := w) (base := base) T d__law_pick hm (c__law_draw base)
  have c_is_scheme := fun base : Heap => Tx.c_is_scheme (P := l.prog) (w := w) (base := base) T d_is_scheme hm (c_is_entry base)
  have c_mapped := fun base : Heap => Tx.c_mapped (P := l.prog) (w := w) (base := base) T d_mapped hm (c_split base)
  have c_run := fun base : Heap => Tx.c_run (P := l.prog) (w := w) (base := base) T d_run hm (c_feed base)
  have c__law_string := fun base : Heap => Tx.c__law_string (P := l.prog) (w := w) (base := base) T d__law_string hm (c__law_pick base) (c__law_draw base)
  have c_finish := fun base : Heap => Tx.c_finish (P := l.prog) (w := w) (base := base) T d_finish hm (c_mapped base)
  have c_is_chain := fun base : Heap => Tx.c_is_chain (P := l.prog) (w := w) (base := base) T d_is_chain hm (c_letters_of base) (c_is_scheme base)
  have c__law_scheme := fun base : Heap => Tx.c__law_scheme (P := l.prog) (w := w) (base := base) T d__law_scheme hm (c__law_draw base) (c__law_string base)
  have c_need_chain := fun base : Heap => Tx.c_need_chain (P := l.prog) (w := w) (base := base) T d_need_chain hm (c_is_chain base)
  have c__law_near := fun base : Heap => Tx.c__law_near (P := l.prog) (w := w) (base := base) T d__law_near hm (c__law_scheme base) (c__law_draw base) (c__law_string base)
  have c_smallest := fun base : Heap => Tx.c_smallest (P := l.prog) (w := w) (base := base) T d_smallest hm
  have c_smallest_difference := fun (base : Heap) (hb : ∀ p ∈ cs, TabB base mg p.1 p.2) => Tx.c_smallest_difference (P := l.prog) (w := w) (base := base) (TK := TK) T ⟨f0, M0.here⟩ (hb (c0, tabP K c0) (by simp [cs])) (by simp [TK]) (by intro p hp e; simp only [TK, List.mem_cons, List.not_mem_nil, or_false] at hp; rcases hp with rfl <;> first | rfl | exact absurd e (by first | assumption | exact Ne.symm (by assumption))) hm (c_smallest base) (c_finish base) (c_run base)
  have c_difference := fun (base : Heap) (hb : ∀ p ∈ cs, TabB base mg p.1 p.2) => Tx.c_difference (P := l.prog) (w := w) (base := base) (TK := TK) T d_difference hm (c_need_chain base) (c_smallest_difference base hb) (c_letters_of base) (c_tables_of base)
  obtain ⟨fd, hbd, hF⟩ := Tx.c_law (P := l.prog) (w := w) (TK := TK) (cs := cs) T d_law hm hfa c__law_pick c__law_scheme c__law_near c__law_key c_difference c__law_draw c_is_chain
  refine ⟨fd, cs, spLawT K TK, ?q0, ?q1, ?q2, hbd, fun H a ns hl _ hT hS => ⟨a, ns, rfl, hS, hl, tabsN_nil ?_, fun _ => rfl⟩, hF⟩
  case q0 =>
    intro p hp
    simp only [cs, List.mem_cons, List.not_mem_nil, or_false] at hp
    rcases hp with rfl
    · exact M0.tab
  case q1 =>
    intro p hp
    simp only [cs, List.mem_cons, List.not_mem_nil, or_false] at hp
    rcases hp with rfl
    · exact M0.non
  case q2 =>
    intro p hp
    simp only [cs, List.mem_cons, List.not_mem_nil, or_false] at hp
    rcases hp with rfl
    · exact PySem.W.codeHd_of_K X M0.hd
  intro q hq
  simp only [TK, List.mem_cons, List.not_mem_nil, or_false] at hq
  rcases hq with rfl
  · exact hT (c0, tabP K c0) (by simp [cs])
theorem walk {l : PySem.W.OpenLaw} {q : Program} {loose : List Str} {XP : (Str → Option Value) → Heap → Prop} {YP : World → Heap → Prop} {d : DefRec} {K : Params → PySem.W.Frag} (hn : l.most = some 63) (hdf : d.params.defaults = [])
    (hY : ∀ (w : World) (h : Heap), YP w h → (K w.params).In h)
    (F : ∀ (w : World) (mg : Str → Option Value) (fa : Addr) (h : Heap), YP w h → (K w.params).In h → h.Ns mainGlobals mg → mg d.name = some (.ref fa) →
      LawAtS l w (K w.params) (L2N.CX l.prog w) 100 63 "_law_script" mg fa h) :
    PySem.W.WalkO q loose XP YP l.row.toRowW d [] (fun f vs => PySem.call f vs) :=
  LamX.walk_ofTs (n := 63) (k := 100) (x := "_law_script") (CX := fun w => L2N.CX l.prog w) hn (by decide) hdf ⟨rfl, by decide, by decide⟩ hY F fun w H s e s' z => by
    obtain ⟨_, _, _, _, _, _, _, _, _, _, _, _, z⟩ := z
    exact z.elim
end Tx
open PySem PySem.W PyProof.Rows
set_option maxRecDepth 100000 in
set_option maxHeartbeats 0 in
theorem PySem.Challenge.cw_translit_k21_whole_triangle_holds : PySem.Challenge.rw_translit_k21_whole_triangle.Holds := by
  w_on; o_law; k_head; (case hw => w_witness2)
  k_fill
  refine Tx.walk (l := PySem.Challenge.rw_translit_k21_whole_triangle) rfl rfl (fun w h Y => PySem.W.km_in_of Y) ?F
  case F =>
    intro w mg fa h Y KX G hmg'
    have hT8 := PySem.W.km_tabs_of Y
    refine Tx.all_mk KX G hmg' ?d_is_string ?d_is_entry ?d_is_scheme ?d_letters_of ?d_longest ?d_write_table ?d_split ?d_mapped ?d_is_open ?d_feed ?d_run ?d_finish ?d_smallest ?d_is_chain ?d_need_chain ?d_tables_of ?d_difference ?d__law_draw ?d__law_pick ?d__law_string ?d__law_scheme ?d__law_near ?d__law_key ?d_law ?dM ?b_isinstance ?b_str ?b_all ?b_len ?b_tuple ?b_zip ?b_range ?b_min ?b_dict ?b_any ?b_sorted ?g_PART ?g_LETTERS ?g_ENTRIES ?x_InvalidChain
    (case d_is_string => refine' TD.def_mk ?a ?l ?c ?k; (case a => k_is); (case l => k_is); (case c => k_is); (case k => k_is))
    (case d_is_entry => refine' TD.def_mk ?a ?l ?c ?k; (case a => k_is); (case l => k_is); (case c => k_is); (case k => k_is))
    (case d_is_scheme => refine' TD.def_mk ?a ?l ?c ?k; (case a => k_is); (case l => k_is); (case c => k_is); (case k => k_is))
    (case d_letters_of => refine' TD.def_mk ?a ?l ?c ?k; (case a => k_is); (case l => k_is); (case c => k_is); (case k => k_is))
    (case d_longest => refine' TD.def_mk ?a ?l ?c ?k; (case a => k_is); (case l => k_is); (case c => k_is); (case k => k_is))
    (case d_write_table => refine' TD.def_mk ?a ?l ?c ?k; (case a => k_is); (case l => k_is); (case c => k_is); (case k => k_is))
    (case d_split => refine' TD.def_mk ?a ?l ?c ?k; (case a => k_is); (case l => k_is); (case c => k_is); (case k => k_is))
    (case d_mapped => refine' TD.def_mk ?a ?l ?c ?k; (case a => k_is); (case l => k_is); (case c => k_is); (case k => k_is))
    (case d_is_open => refine' TD.def_mk ?a ?l ?c ?k; (case a => k_is); (case l => k_is); (case c => k_is); (case k => k_is))
    (case d_feed => refine' TD.def_mk ?a ?l ?c ?k; (case a => k_is); (case l => k_is); (case c => k_is); (case k => k_is))
    (case d_run => refine' TD.def_mk ?a ?l ?c ?k; (case a => k_is); (case l => k_is); (case c => k_is); (case k => k_is))
    (case d_finish => refine' TD.def_mk ?a ?l ?c ?k; (case a => k_is); (case l => k_is); (case c => k_is); (case k => k_is))
    (case d_smallest => refine' TD.def_mk ?a ?l ?c ?k; (case a => k_is); (case l => k_is); (case c => k_is); (case k => k_is))
    (case d_is_chain => refine' TD.def_mk ?a ?l ?c ?k; (case a => k_is); (case l => k_is); (case c => k_is); (case k => k_is))
    (case d_need_chain => refine' TD.def_mk ?a ?l ?c ?k; (case a => k_is); (case l => k_is); (case c => k_is); (case k => k_is))
    (case d_tables_of => refine' TD.def_mk ?a ?l ?c ?k; (case a => k_is); (case l => k_is); (case c => k_is); (case k => k_is))
    (case d_difference => refine' TD.def_mk ?a ?l ?c ?k; (case a => k_is); (case l => k_is); (case c => k_is); (case k => k_is))
    (case d__law_draw => refine' TD.def_mk ?a ?l ?c ?k; (case a => k_is); (case l => k_is); (case c => k_is); (case k => k_is))
    (case d__law_pick => refine' TD.def_mk ?a ?l ?c ?k; (case a => k_is); (case l => k_is); (case c => k_is); (case k => k_is))
    (case d__law_string => refine' TD.def_mk ?a ?l ?c ?k; (case a => k_is); (case l => k_is); (case c => k_is); (case k => k_is))
    (case d__law_scheme => refine' TD.def_mk ?a ?l ?c ?k; (case a => k_is); (case l => k_is); (case c => k_is); (case k => k_is))
    (case d__law_near => refine' TD.def_mk ?a ?l ?c ?k; (case a => k_is); (case l => k_is); (case c => k_is); (case k => k_is))
    (case d__law_key => refine' TD.def_mk ?a ?l ?c ?k; (case a => k_is); (case l => k_is); (case c => k_is); (case k => k_is))
    (case d_law => refine' TD.def_mk ?a ?l ?c ?k; (case a => k_is); (case l => k_is); (case c => k_is); (case k => k_is))
    (case dM => refine' Tx.dM_mk (TD.mkAt ?ma0 ?ml0 ?mc0 ?mk0 ?me0 ?mg0 ?mn0) ; (case ma0 => k_is); (case ml0 => k_is); (case mc0 => k_is); (case mk0 => k_is); (case me0 => kernel_rfl); (case mg0 => exact hT8 _ (List.elem_iff.mp (by kernel_rfl))); (case mn0 => kernel_rfl))
    (case b_isinstance => k_is)
    (case b_str => k_is)
    (case b_all => k_is)
    (case b_len => k_is)
    (case b_tuple => k_is)
    (case b_zip => k_is)
    (case b_range => k_is)
    (case b_min => k_is)
    (case b_dict => k_is)
    (case b_any => k_is)
    (case b_sorted => k_is)
    (case g_PART => refine' TD.int_mk ?ga_PART; (case ga_PART => k_is))
    (case g_LETTERS => refine' TD.str_mk ?ga_LETTERS ?ge_LETTERS; (case ga_LETTERS => k_is); (case ge_LETTERS => decide +kernel))
    (case g_ENTRIES => refine' TD.int_mk ?ga_ENTRIES; (case ga_ENTRIES => k_is))
    (case x_InvalidChain => refine' TD.exc_mk ?xa_InvalidChain ?xq_InvalidChain ?xk_InvalidChain ?xb_InvalidChain ?xt_InvalidChain ?xi_InvalidChain; (case xa_InvalidChain => k_is); (case xq_InvalidChain => k_exc); (case xk_InvalidChain => k_is); (case xb_InvalidChain => k_is); (case xt_InvalidChain => k_is); (case xi_InvalidChain => k_is))
