import PyProof.Rows.All
import Wide.All
import OpenK.AllK
import Wide.FinOn
import HandS.ForMost
import HandS.ForExc
import HandS.ExcIs
import HandS.IsInst
import HandS.SortInts
import HandS.TupAny
import HandS.Deep
import KE.SortData
import HandS.More
import PySem.Challenge.RW_rolldie_k05_walked
set_option Elab.async false
set_option linter.all false
set_option maxRecDepth 100000
set_option maxHeartbeats 4000000
/-! Lay: judgements of data over the hand layer. F: what stands for good; H: all that stands; F lies within H. -/
namespace Lay
open PySem PySem.Spec PyProof.Rows L2

/-! ### data that stands in a heap -/
mutual
/-- v is the datum d in F. A dict that bears the sign of a script stands for the script -/
inductive Dn (K : PySem.W.Frag) (F : Hp) : V → PyData → Prop
  | non : Dn K F .non .none
  | bl (b : Bool) : Dn K F (.bl b) (.bool b)
  | int (i : Int) : Dn K F (.int i) (.int i)
  | str (x : Str) : Dn K F (.str x) (.str x)
  | lst {a : Addr} {xs : List V} {ds : List PyData} : F a = some (.lst xs) → Dns K F xs ds → Dn K F (.ref a) (.list ds)
  | tup {a : Addr} {xs : List V} {ds : List PyData} : SqT K F a xs → Dns K F xs ds → Dn K F (.ref a) (.tuple ds)
  | scr {a : Addr} {ns : List Int} : SqL K F a (ns.map V.int) → Dn K F (.ref a) (.dict [(.none, .list (ns.map PyData.int))])
inductive Dns (K : PySem.W.Frag) (F : Hp) : List V → List PyData → Prop
  | nil : Dns K F [] []
  | cons {v : V} {vs : List V} {d : PyData} {ds : List PyData} : Dn K F v d → Dns K F vs ds → Dns K F (v :: vs) (d :: ds)
end
theorem rd_mono {F G : Hp} {a : Addr} {u : HO} (e : Same F G) (h : Rd F a u) : Rd G a u := by
  rcases h with h | ⟨o, h⟩
  · exact .inl (e _ _ h)
  · exact .inr ⟨o, e _ _ h⟩
theorem sqt_mono {K : PySem.W.Frag} {F G : Hp} {a : Addr} {xs : List V} (e : Same F G) (h : SqT K F a xs) : SqT K G a xs := by
  rcases h with h | h
  · exact .inl (rd_mono e h)
  · exact .inr h
theorem sql_mono {K : PySem.W.Frag} {F G : Hp} {a : Addr} {xs : List V} (e : Same F G) (h : SqL K F a xs) : SqL K G a xs := by
  rcases h with h | h
  · exact .inl (rd_mono e h)
  · exact .inr h
mutual
theorem Dn.mono {K : PySem.W.Frag} {F G : Hp} (e : Same F G) : ∀ {v : V} {d : PyData}, Dn K F v d → Dn K G v d
  | _, _, .non => .non
  | _, _, .bl b => .bl b
  | _, _, .int i => .int i
  | _, _, .str x => .str x
  | _, _, .lst h r => .lst (e _ _ h) (Dns.mono e r)
  | _, _, .tup h r => .tup (sqt_mono e h) (Dns.mono e r)
  | _, _, .scr h => .scr (sql_mono e h)
theorem Dns.mono {K : PySem.W.Frag} {F G : Hp} (e : Same F G) : ∀ {vs : List V} {ds : List PyData}, Dns K F vs ds → Dns K G vs ds
  | _, _, .nil => .nil
  | _, _, .cons h r => .cons (Dn.mono e h) (Dns.mono e r)
end
mutual
theorem Dn.dp {K : PySem.W.Frag} {F : Hp} : ∀ {v : V} {d : PyData}, Dn K F v d → d.canLay0 = true → Dp K F v d
  | _, _, .non, _ => .non
  | _, _, .bl b, _ => .bl b
  | _, _, .int i, _ => .int i
  | _, _, .str x, _ => .str x
  | _, _, .lst h r, c => .lst (SqL.of h) (Dns.dp r (by simpa [PyData.canLay0] using c))
  | _, _, .tup h r, c => .tup h (Dns.dp r (by simpa [PyData.canLay0] using c))
  | _, _, .scr _, c => by simp [PyData.canLay0] at c
theorem Dns.dp {K : PySem.W.Frag} {F : Hp} : ∀ {vs : List V} {ds : List PyData}, Dns K F vs ds → PyData.canLayAll0 ds = true → DpAll K F vs ds
  | _, _, .nil, _ => .nil
  | _, _, .cons h r, c => by
    simp only [PyData.canLayAll0, Bool.and_eq_true] at c
    exact .cons (Dn.dp h c.1) (Dns.dp r c.2)
end
theorem Dns.len {K : PySem.W.Frag} {F : Hp} : ∀ {vs : List V} {ds : List PyData}, Dns K F vs ds → vs.length = ds.length
  | _, _, .nil => rfl
  | _, _, .cons _ r => congrArg (· + 1) (Dns.len r)
theorem Dns.get {K : PySem.W.Frag} {F : Hp} : ∀ {vs : List V} {ds : List PyData} {i : Nat} {d : PyData}, Dns K F vs ds → ds[i]? = some d → ∃ v, vs[i]? = some v ∧ Dn K F v d
  | _, _, _, _, .nil, h => by simp at h
  | _, _, 0, d, .cons (v := v) h r, e => by
    simp at e
    subst e
    exact ⟨v, rfl, h⟩
  | _, _, i + 1, d, .cons h r, e => by
    obtain ⟨v, e1, e2⟩ := Dns.get (i := i) r (by simpa using e)
    exact ⟨v, by simpa using e1, e2⟩
theorem Dns.getV {K : PySem.W.Frag} {F : Hp} : ∀ {vs : List V} {ds : List PyData} {i : Nat} {v : V}, Dns K F vs ds → vs[i]? = some v → ∃ d, ds[i]? = some d ∧ Dn K F v d
  | _, _, _, _, .nil, h => by simp at h
  | _, _, 0, v, .cons (d := d) h r, e => by
    simp at e
    subst e
    exact ⟨d, rfl, h⟩
  | _, _, i + 1, v, .cons h r, e => by
    obtain ⟨d, e1, e2⟩ := Dns.getV (i := i) r (by simpa using e)
    exact ⟨d, by simpa using e1, e2⟩
theorem Dns.app {K : PySem.W.Frag} {F : Hp} : ∀ {vs ws : List V} {ds es : List PyData}, Dns K F vs ds → Dns K F ws es → Dns K F (vs ++ ws) (ds ++ es)
  | _, _, _, _, .nil, s => s
  | _, _, _, _, .cons h r, s => .cons h (Dns.app r s)
theorem Dns.take {K : PySem.W.Frag} {F : Hp} : ∀ {vs : List V} {ds : List PyData} (n : Nat), Dns K F vs ds → Dns K F (vs.take n) (ds.take n)
  | _, _, 0, _ => .nil
  | _, _, _ + 1, .nil => .nil
  | _, _, n + 1, .cons h r => .cons h (Dns.take n r)
theorem Dns.drop {K : PySem.W.Frag} {F : Hp} : ∀ {vs : List V} {ds : List PyData} (n : Nat), Dns K F vs ds → Dns K F (vs.drop n) (ds.drop n)
  | _, _, 0, r => r
  | _, _, _ + 1, .nil => .nil
  | _, _, n + 1, .cons _ r => Dns.drop n r
theorem dns_ints {K : PySem.W.Frag} {F : Hp} : ∀ ns : List Int, Dns K F (ns.map V.int) (ns.map PyData.int)
  | [] => .nil
  | n :: r => .cons (.int n) (dns_ints r)
theorem ints_of {K : PySem.W.Frag} {F : Hp} : ∀ {ns : List Int} {vs : List V}, Dns K F vs (ns.map PyData.int) → vs = ns.map V.int
  | [], _, .nil => rfl
  | n :: r, _, .cons h t => by
    cases h
    rw [ints_of t]
    rfl
theorem bls_of {K : PySem.W.Frag} {F : Hp} : ∀ {ns : List Bool} {vs : List V}, Dns K F vs (ns.map PyData.bool) → vs = ns.map V.bl
  | [], _, .nil => rfl
  | n :: r, _, .cons h t => by
    cases h
    rw [bls_of t]
    rfl
theorem strs_of {K : PySem.W.Frag} {F : Hp} : ∀ {ns : List Str} {vs : List V}, Dns K F vs (ns.map PyData.str) → vs = ns.map V.str
  | [], _, .nil => rfl
  | n :: r, _, .cons h t => by
    cases h
    rw [strs_of t]
    rfl

/-! ### how both heaps grow -/
structure Grow (F H G J : Hp) : Prop where
  ex : Same F G
  le : Same G J
  kp : Same H J
  new : ∀ b, F b = none → H b ≠ none → G b = none
section
variable {F H G J M N : Hp}
theorem Grow.refl (e : Same F H) : Grow F H F H := ⟨Same.refl F, e, Same.refl H, fun _ h _ => h⟩
theorem Grow.base (g : Grow F H G J) : Same F J := g.ex.trans g.le
theorem Grow.trans (a : Grow F H G J) (b : Grow G J M N) : Grow F H M N where
  ex := a.ex.trans b.ex
  le := b.le
  kp := a.kp.trans b.kp
  new := fun x h1 h2 => by
    refine b.new x (a.new x h1 h2) fun z => h2 ?_
    exact a.kp.free z
/-- a new object, for good -/
theorem Grow.add (le : Same F H) {p : Addr} {o : HO} (hp : H p = none) : Grow F H (upd F p o) (upd H p o) := by
  have hF : F p = none := le.free hp
  refine ⟨fun b u e => ?_, fun b u e => ?_, fun b u e => ?_, fun b h1 h2 => ?_⟩
  · rw [upd_ne (ne_of_none e hF)]
    exact e
  · by_cases hb : b = p
    · subst hb
      rw [upd_same] at e ⊢
      exact e
    · rw [upd_ne hb] at e ⊢
      exact le b u e
  · rw [upd_ne (ne_of_none e hp)]
    exact e
  · rw [upd_ne (show b ≠ p from fun z => h2 (by rw [z]; exact hp))]
    exact h1
/-- a new object, one's own -/
theorem Grow.own (le : Same F H) {p : Addr} {o : HO} (hp : H p = none) : Grow F H F (upd H p o) := by
  refine ⟨Same.refl F, fun b u e => ?_, fun b u e => ?_, fun b h1 _ => h1⟩
  · rw [upd_ne (ne_of_none (le b u e) hp)]
    exact le b u e
  · rw [upd_ne (ne_of_none e hp)]
    exact e
/-- one's own object is changed -/
theorem Grow.set (g : Grow F H G J) {p : Addr} {o : HO} (hG : G p = none) (hH : H p = none) : Grow F H G (upd J p o) := by
  refine ⟨g.ex, fun b u e => ?_, fun b u e => ?_, g.new⟩
  · rw [upd_ne (ne_of_none e hG)]
    exact g.le b u e
  · rw [upd_ne (ne_of_none e hH)]
    exact g.kp b u e
/-- one's own object is let stand for good -/
theorem Grow.fix (g : Grow F H G J) {p : Addr} {o : HO} (hG : G p = none) (hH : H p = none) (hJ : J p = some o) : Grow F H (upd G p o) J := by
  refine ⟨fun b u e => ?_, fun b u e => ?_, g.kp, fun b h1 h2 => ?_⟩
  · rw [upd_ne (ne_of_none (g.ex b u e) hG)]
    exact g.ex b u e
  · by_cases hb : b = p
    · subst hb
      rw [upd_same] at e
      rw [hJ]
      exact e
    · rw [upd_ne hb] at e
      exact g.le b u e
  · rw [upd_ne (show b ≠ p from fun z => h2 (by rw [z]; exact hH))]
    exact g.new b h1 h2
end

/-! ### the slots' data -/
def Sl (K : PySem.W.Frag) (F : Hp) (σ : L2.St) (env : List (Option PyData)) : Prop := ∀ (i : Nat) (d : PyData), env[i]? = some (some d) → ∃ v, σ[i]? = some (some v) ∧ Dn K F v d
section
variable {K : PySem.W.Frag} {F G : Hp} {σ : L2.St} {env : List (Option PyData)}
theorem Sl.mono (e : Same F G) (h : Sl K F σ env) : Sl K G σ env := fun i d q => by
  obtain ⟨v, e1, e2⟩ := h i d q
  exact ⟨v, e1, e2.mono e⟩
theorem Sl.set {i : Nat} {v : V} {d : PyData} (h : Sl K F σ env) (hl : env.length ≤ σ.length) (r : Dn K F v d) : Sl K F (σ.set i (some v)) (env.set i (some d)) := fun j e q => by
  by_cases hj : j = i
  · subst hj
    have hlt : j < env.length := by
      have := (List.getElem?_eq_some_iff.mp q).1
      simpa using this
    rw [List.getElem?_set_self hlt] at q
    cases q
    exact ⟨v, List.getElem?_set_self (Nat.lt_of_lt_of_le hlt hl), r⟩
  · rw [List.getElem?_set_ne (Ne.symm hj)] at q ⊢
    exact h j e q
theorem Sl.lose {i : Nat} {o : Option V} (h : Sl K F σ env) : Sl K F (σ.set i o) (env.set i none) := fun j e q => by
  by_cases hj : j = i
  · subst hj
    by_cases hlt : j < env.length
    · rw [List.getElem?_set_self hlt] at q
      cases q
    · rw [List.getElem?_eq_none (by simpa using hlt)] at q
      cases q
  · rw [List.getElem?_set_ne (Ne.symm hj)] at q ⊢
    exact h j e q
def wipeE (env : List (Option PyData)) : List Nat → List (Option PyData)
  | [] => env
  | v :: vs => (wipeE env vs).set v none
theorem Sl.wipe (h : Sl K F σ env) : ∀ vs : List Nat, Sl K F (L2.wipe σ vs) (wipeE env vs)
  | [] => h
  | v :: vs => (Sl.wipe h vs).lose
theorem wipeE_len : ∀ vs : List Nat, (wipeE env vs).length = env.length
  | [] => rfl
  | v :: vs => by
    show ((wipeE env vs).set v none).length = _
    rw [List.length_set, wipeE_len vs]
theorem sl_nil : Sl K F σ [] := fun i d q => by simp at q
theorem sl_start : ∀ {vs : List V} {ds : List PyData} (r : Dns K F vs ds) (N : List Str), Sl K F (L2.start N vs) (ds.map some) := fun {vs ds} r N i d q => by
  rw [List.getElem?_map] at q
  cases e : ds[i]? with
  | none =>
    rw [e] at q
    cases q
  | some d' =>
    rw [e] at q
    cases q
    obtain ⟨v, e1, e2⟩ := r.get e
    refine ⟨v, ?_, e2⟩
    unfold L2.start
    have hlt := (List.getElem?_eq_some_iff.mp e1).1
    rw [List.getElem?_append_left (by simpa using hlt), List.getElem?_map, e1]
    rfl
/-- more slots, without a datum -/
theorem Sl.pad (h : Sl K F σ env) (n : Nat) : Sl K F σ (env ++ List.replicate n none) := fun i d q => by
  by_cases hi : i < env.length
  · rw [List.getElem?_append_left hi] at q
    exact h i d q
  · rw [List.getElem?_append_right (by omega), List.getElem?_replicate] at q
    split at q <;> cases q
end
theorem wipe_set (σ : L2.St) {j : Nat} {x : Option V} : ∀ vs : List Nat, j ∈ vs → L2.wipe ((L2.wipe σ vs).set j x) vs = L2.wipe σ vs := fun vs hj => by
  have out : ∀ (τ : L2.St) (us : List Nat) (i : Nat), (L2.wipe τ us)[i]? = if i ∈ us then (if i < τ.length then some none else none) else τ[i]? := by
    intro τ us
    induction us with
    | nil => intro i; simp [L2.wipe]
    | cons u us ih =>
      intro i
      show ((L2.wipe τ us).set u none)[i]? = _
      rw [List.getElem?_set]
      by_cases hu : u = i
      · subst hu
        rw [if_pos rfl]
        have e : (L2.wipe τ us).length = τ.length := L2.wipe_length τ us
        rw [e]
        simp
      · rw [if_neg hu, ih i]
        have : (i ∈ u :: us) = (i ∈ us) := by
          apply propext
          constructor
          · intro h
            rcases List.mem_cons.mp h with h | h
            · exact absurd h.symm hu
            · exact h
          · exact List.mem_cons_of_mem _
        simp only [this]
  apply List.ext_getElem?
  intro i
  rw [out, out]
  by_cases hi : i ∈ vs
  · rw [if_pos hi, if_pos hi, List.length_set, L2.wipe_length]
  · rw [if_neg hi, if_neg hi, List.getElem?_set_ne (show j ≠ i from fun z => hi (by rw [← z]; exact hj)), out, if_neg hi]
end Lay

/-! Lay1: the judgements and their rules: expressions, arguments, tests, statements. -/
namespace Lay
open PySem L2

/-! ### what the module gives; where one stands -/
structure Md where
  P : Program
  w : World
  K : PySem.W.Frag
  mg : Str → Option Value
  base : Heap
structure Ok0 (M : Md) (X : Cx) (N : List Str) (sc : Scope) : Prop where
  eP : X.prog = M.P
  eW : X.w = M.w
  eK : X.K = M.K
  eG : X.mg = M.mg
  eB : X.base = M.base
  eN : X.N = N
  eS : X.env.scope = sc
  nd : N.Nodup
structure Ok (M : Md) (X : Cx) (N : List Str) (sc : Scope) (k : Nat) : Prop extends Ok0 M X N sc where
  calm : X.calm = true
  room : Room k X.A
  pass : PassesOwn (model X.prog X.w) X.A X.env X.xe
/-- a def's own body, where every name's place was made at the entry -/
structure Fs (X : Cx) : Prop where
  fn : ∀ x, X.fn x = true
  stk : X.stack = X.env :: X.outer
  frm : X.env.frame = some X.env.locals
theorem Ok.less {M : Md} {X : Cx} {N : List Str} {sc : Scope} {k j : Nat} (o : Ok M X N sc k) (h : j ≤ k) : Ok M X N sc j := ⟨o.toOk0, o.calm, o.room.mono h, o.pass⟩

/-! ### readings that are as weak as can be -/
structure WE (X : Cx) (e : Expr) (σ : L2.St) (H : Hp) (Q : VK) : Prop where
  run : ∀ (pins : List (Addr × Obj)) (s : Shared), Inv X pins σ H s → wpAny (model X.prog X.w) X.A (eval e X.env) (EP X pins σ Q) X.xe s
theorem WE.pe {X : Cx} {e : Expr} : PE X e (WE X e) := ⟨fun pins s σ H Q I h => h.run pins s I⟩
theorem WE.of {X : Cx} {e : Expr} {t : TE} (p : PE X e t) {σ : L2.St} {H : Hp} {Q : VK} (h : t σ H Q) : WE X e σ H Q := ⟨fun pins s I => p.run pins s σ H Q I h⟩
structure WT (X : Cx) (e : Expr) (σ : L2.St) (H : Hp) (Q : Bool → Hp → Prop) : Prop where
  run : ∀ (pins : List (Addr × Obj)) (s : Shared), Inv X pins σ H s → wpAny (model X.prog X.w) X.A (isTrue e X.env (eval e X.env)) (TP X pins σ Q) X.xe s
theorem WT.pt {X : Cx} {e : Expr} : PT X e (WT X e) := ⟨fun pins s σ H Q I h => h.run pins s I⟩
theorem WT.of {X : Cx} {e : Expr} {t : TT} (p : PT X e t) {σ : L2.St} {H : Hp} {Q : Bool → Hp → Prop} (h : t σ H Q) : WT X e σ H Q := ⟨fun pins s I => p.run pins s σ H Q I h⟩
structure WW (X : Cx) (e : Expr) (σ : L2.St) (H : Hp) (Q : Bool → Hp → Prop) : Prop where
  run : ∀ (whole : Sem Value) (pins : List (Addr × Obj)) (s : Shared), Inv X pins σ H s → wpAny (model X.prog X.w) X.A (isTrue e X.env whole) (TP X pins σ Q) X.xe s
theorem WW.pw {X : Cx} {e : Expr} : PW X e (WW X e) := ⟨fun whole pins s σ H Q I h => h.run whole pins s I⟩
theorem WW.of {X : Cx} {e : Expr} {t : TT} (p : PW X e t) {σ : L2.St} {H : Hp} {Q : Bool → Hp → Prop} (h : t σ H Q) : WW X e σ H Q := ⟨fun whole pins s I => p.run whole pins s σ H Q I h⟩
structure WA (X : Cx) (es : List Expr) (σ : L2.St) (H : Hp) (Q : List V → Hp → Prop) : Prop where
  run : ∀ (pos : Pos) (pins : List (Addr × Obj)) (s : Shared), Inv X pins σ H s → wpAny (model X.prog X.w) X.A (spliced (backTo pos (starEach es X.env))) (AP X pins σ Q) X.xe s
theorem WA.pa {X : Cx} {es : List Expr} : PA X es (WA X es) := ⟨fun pos pins s σ H Q I h => h.run pos pins s I⟩
theorem WA.of {X : Cx} {es : List Expr} {t : TA} (p : PA X es t) {σ : L2.St} {H : Hp} {Q : List V → Hp → Prop} (h : t σ H Q) : WA X es σ H Q := ⟨fun pos pins s I => p.run pos pins s σ H Q I h⟩
structure W1 (X : Cx) (st : Stmt) (D : Ends) (σ : L2.St) (H : Hp) : Prop where
  run : ∀ (pins : List (Addr × Obj)) (s : Shared), Inv X pins σ H s → wpAny (model X.prog X.w) X.A (exec st X.env) (SP X pins D) X.xe s
theorem W1.ps {X : Cx} {st : Stmt} : PS X st (W1 X st) := ⟨fun pins s σ H D I h => h.run pins s I⟩
theorem W1.of {X : Cx} {st : Stmt} {t : TS} (p : PS X st t) {σ : L2.St} {H : Hp} {D : Ends} (h : t D σ H) : W1 X st D σ H := ⟨fun pins s I => p.run pins s σ H D I h⟩
structure WS (X : Cx) (st : List Stmt) (D : Ends) (σ : L2.St) (H : Hp) : Prop where
  run : ∀ (pins : List (Addr × Obj)) (s : Shared), Inv X pins σ H s → wpAny (model X.prog X.w) X.A (execs st X.env) (SP X pins D) X.xe s
theorem WS.ps {X : Cx} {st : List Stmt} : PSs X st (WS X st) := ⟨fun pins s σ H D I h => h.run pins s I⟩
theorem WS.of {X : Cx} {st : List Stmt} {t : TS} (p : PSs X st t) {σ : L2.St} {H : Hp} {D : Ends} (h : t D σ H) : WS X st D σ H := ⟨fun pins s I => p.run pins s σ H D I h⟩
structure WI (X : Cx) (tg iter : Expr) (σ : L2.St) (H : Hp) (R : It → Hp → Prop) : Prop where
  run : ∀ (pins : List (Addr × Obj)) (s : Shared), Inv X pins σ H s → wpAny (model X.prog X.w) X.A (eval iter X.env) (fun v s1 => wpAny (model X.prog X.w) X.A (pyIter v) (PIE X pins σ tg R) X.xe s1) X.xe s
theorem WI.pi {X : Cx} {tg iter : Expr} : PI X tg iter (WI X tg iter) := ⟨fun pins s σ H R I h => h.run pins s I⟩
theorem WI.of {X : Cx} {tg iter : Expr} {t : TI} (p : PI X tg iter t) {σ : L2.St} {H : Hp} {R : It → Hp → Prop} (h : t σ H R) : WI X tg iter σ H R := ⟨fun pins s I => p.run pins s σ H R I h⟩

/-! ### the judgements -/
/-- e gives the datum d -/
structure XD (M : Md) (X : Cx) (e : Expr) (σ : L2.St) (F H : Hp) (d : PyData) : Prop where
  run : ∀ F1 H1, Grow F H F1 H1 → ∀ Q : VK, (∀ v F' H', Grow F1 H1 F' H' → Dn M.K F' v d → Q v H') → WE X e σ H1 Q
/-- e gives a datum that may stand in one's own lists, for a look -/
structure XH (M : Md) (X : Cx) (e : Expr) (σ : L2.St) (F H : Hp) (d : PyData) : Prop where
  run : ∀ F1 H1, Grow F H F1 H1 → ∀ Q : VK, (∀ v F' H', Grow F1 H1 F' H' → Dn M.K H' v d → Q v H') → WE X e σ H1 Q
/-- e gives a new list of ds -/
structure XO (M : Md) (X : Cx) (e : Expr) (σ : L2.St) (F H : Hp) (ds : List PyData) : Prop where
  run : ∀ F1 H1, Grow F H F1 H1 → ∀ Q : VK, (∀ p vs F' H', Grow F1 H1 F' H' → F' p = none → H1 p = none → H' p = some (.lst vs) → Dns M.K F' vs ds → Q (.ref p) H') → WE X e σ H1 Q
structure XA (M : Md) (X : Cx) (es : List Expr) (σ : L2.St) (F H : Hp) (ds : List PyData) : Prop where
  run : ∀ F1 H1, Grow F H F1 H1 → ∀ Q : List V → Hp → Prop, (∀ vs F' H', Grow F1 H1 F' H' → Dns M.K F' vs ds → Q vs H') → WA X es σ H1 Q
structure XB (M : Md) (X : Cx) (e : Expr) (σ : L2.St) (F H : Hp) (b : Bool) : Prop where
  run : ∀ F1 H1, Grow F H F1 H1 → ∀ Q : Bool → Hp → Prop, (∀ F' H', Grow F1 H1 F' H' → Q b H') → WT X e σ H1 Q
structure XW (M : Md) (X : Cx) (e : Expr) (σ : L2.St) (F H : Hp) (b : Bool) : Prop where
  run : ∀ F1 H1, Grow F H F1 H1 → ∀ Q : Bool → Hp → Prop, (∀ F' H', Grow F1 H1 F' H' → Q b H') → WW X e σ H1 Q

section
variable {M : Md} {X : Cx} {N : List Str} {sc : Scope} {k : Nat} {σ : L2.St} {env : List (Option PyData)} {F H : Hp} {d d1 d2 : PyData} {ds : List PyData} {e a b : Expr} {es : List Expr} {pos : Pos} {i j : Int}
theorem XD.mono {G J : Hp} (h : XD M X e σ F H d) (g : Grow F H G J) : XD M X e σ G J d := ⟨fun F1 H1 g1 Q q => h.run F1 H1 (g.trans g1) Q q⟩
theorem XB.mono {G J : Hp} {c : Bool} (h : XB M X e σ F H c) (g : Grow F H G J) : XB M X e σ G J c := ⟨fun F1 H1 g1 Q q => h.run F1 H1 (g.trans g1) Q q⟩
theorem XD.to (h : XD M X e σ F H d1) (q : d1 = d2) : XD M X e σ F H d2 := q ▸ h
theorem XB.to {c c' : Bool} (h : XB M X e σ F H c) (q : c = c') : XB M X e σ F H c' := q ▸ h
theorem XO.to {es' : List PyData} (h : XO M X e σ F H ds) (q : ds = es') : XO M X e σ F H es' := q ▸ h
theorem XD.xh (h : XD M X e σ F H d) : XH M X e σ F H d := ⟨fun F1 H1 g Q q => h.run F1 H1 g Q fun v F' H' g' r => q v F' H' g' (r.mono g'.le)⟩
theorem XO.xd (h : XO M X e σ F H ds) : XD M X e σ F H (.list ds) := ⟨fun F1 H1 g Q q => h.run F1 H1 g Q fun p vs F' H' g' hF hH hp r =>
  q _ (upd F' p (.lst vs)) H' (g'.fix hF hH hp) (.lst upd_same (r.mono fun b u z => by
    rw [upd_ne (ne_of_none z hF)]
    exact z))⟩

/-! ### names, constants -/
def visB (sc : Scope) (x : Str) : Bool := match sc.names.lookup x with
  | some .local => true
  | some .cell => true
  | some .free => true
  | _ => false
theorem vis_of {x : Str} (h : visB sc x = true) : Vis sc x := by
  unfold visB at h
  unfold Vis
  split at h
  · rename_i e; exact .inl e
  · rename_i e; exact .inr (.inl e)
  · rename_i e; exact .inr (.inr e)
  · cases h
/-- a slot by its value -/
theorem we_slot (o : Ok0 M X N sc) (i : Nat) {x : Str} {v : V} {Q : VK} (hv : σ[i]? = some (some v)) (q : Q v H) (hN : N[i]? = some x) (hs : visB sc x = true)
    (hd : (x == ("__debug__" : Str)) = false := by decide +kernel) (hcd : (x == ("__classdict__" : Str)) = false := by decide +kernel) : WE X (.Name x pos) σ H Q :=
  WE.of (pe_var (by rw [o.eN]; exact hN) (by rw [o.eS]; exact vis_of hs) hd hcd) ⟨v, hv, q⟩
theorem x_slot (o : Ok0 M X N sc) (i : Nat) {x : Str} {v : V} (hv : σ[i]? = some (some v)) (r : Dn M.K F v d) (hN : N[i]? = some x := by rfl) (hs : visB sc x = true := by decide +kernel)
    (hd : (x == ("__debug__" : Str)) = false := by decide +kernel) (hcd : (x == ("__classdict__" : Str)) = false := by decide +kernel) : XD M X (.Name x pos) σ F H d :=
  ⟨fun F1 H1 g Q q => we_slot o i hv (q v F1 H1 (Grow.refl g.le) (r.mono g.ex)) hN hs hd hcd⟩
theorem x_var (o : Ok0 M X N sc) (S : Sl M.K F σ env) (i : Nat) {x : Str} (he : env[i]? = some (some d)) (hN : N[i]? = some x) (hs : visB sc x = true := by decide +kernel)
    (hd : (x == ("__debug__" : Str)) = false := by decide +kernel) (hcd : (x == ("__classdict__" : Str)) = false := by decide +kernel) : XD M X (.Name x pos) σ F H d := by
  obtain ⟨v, e1, r⟩ := S i d he
  exact x_slot o i e1 r hN hs hd hcd
theorem x_int {n : Int} {c : Nat} : XD M X (.Constant (.int n) c pos) σ F H (.int n) := ⟨fun F1 H1 g Q q => WE.of pe_int (q _ F1 H1 (Grow.refl g.le) (.int n))⟩
theorem x_str {x : Str} {c : Nat} : XD M X (.Constant (.str x) c pos) σ F H (.str x) := ⟨fun F1 H1 g Q q => WE.of pe_str (q _ F1 H1 (Grow.refl g.le) (.str x))⟩
theorem x_bl {x : Bool} {c : Nat} : XD M X (.Constant (.bool x) c pos) σ F H (.bool x) := ⟨fun F1 H1 g Q q => WE.of pe_bl (q _ F1 H1 (Grow.refl g.le) (.bl x))⟩
theorem x_non {c : Nat} : XD M X (.Constant .none c pos) σ F H .none := ⟨fun F1 H1 g Q q => WE.of pe_non (q _ F1 H1 (Grow.refl g.le) .non)⟩
theorem gl_of (o : Ok0 M X N sc) {x : Str} (h : sc.names.lookup x = some .globalImplicit) : Gl X x := by
  unfold Gl Env.kindOf
  rw [o.eS]
  exact h
/-- a constant of the module -/
theorem x_glob (o : Ok0 M X N sc) {x : Str} {v : V} {u : Value} (hm : M.mg x = some u) (r : RelV v u) (dn : Dn M.K F v d) (hg : sc.names.lookup x = some .globalImplicit := by decide +kernel)
    (hd : (x == ("__debug__" : Str)) = false := by decide +kernel) : XD M X (.Name x pos) σ F H d :=
  ⟨fun F1 H1 g Q q => WE.of (pe_glob (gl_of o hg) (by rw [o.eG]; exact hm) r hd) (q v F1 H1 (Grow.refl g.le) (dn.mono g.ex))⟩

/-! ### operators -/
theorem x_bin {op : Operator} {r : R2} (ho : OpR X (binaryOp op) r) (ha : XD M X a σ F H d1) (hb : XD M X b σ F H d2)
    (hr : ∀ x y F1 H1, Grow F H F1 H1 → Dn M.K F1 x d1 → Dn M.K F1 y d2 → ∀ Q : VK, (∀ v F' H', Grow F1 H1 F' H' → Dn M.K F' v d → Q v H') → r x y H1 Q) : XD M X (.BinOp a op b pos) σ F H d := by
  refine ⟨fun F1 H1 g Q q => ?_⟩
  refine WE.of (pe_op ho WE.pe WE.pe) ?_
  refine ha.run F1 H1 g _ fun x F2 H2 g2 r2 => ?_
  refine hb.run F2 H2 (g.trans g2) _ fun y F3 H3 g3 r3 => ?_
  exact hr x y F3 H3 ((g.trans g2).trans g3) (r2.mono g3.ex) r3 Q fun v F' H' g' r' => q v F' H' ((g2.trans g3).trans g') r'
theorem x_ii {op : Operator} {f : Int → Int → Int} (ho : OpR X (binaryOp op) (rI0 fun i j => .int (f i j))) (ha : XD M X a σ F H (.int i)) (hb : XD M X b σ F H (.int j)) : XD M X (.BinOp a op b pos) σ F H (.int (f i j)) :=
  x_bin ho ha hb fun x y F1 H1 g rx ry Q q => by
    cases rx
    cases ry
    exact ⟨_, _, rfl, rfl, q _ F1 H1 (Grow.refl g.le) (.int _)⟩
theorem x_iiC {op : Operator} {C : Int → Int → Prop} {f : Int → Int → Int} (ho : OpR X (binaryOp op) (rI C fun i j => .int (f i j))) (ha : XD M X a σ F H (.int i)) (hb : XD M X b σ F H (.int j)) (hc : C i j) : XD M X (.BinOp a op b pos) σ F H (.int (f i j)) :=
  x_bin ho ha hb fun x y F1 H1 g rx ry Q q => by
    cases rx
    cases ry
    exact ⟨_, _, rfl, rfl, hc, q _ F1 H1 (Grow.refl g.le) (.int _)⟩
theorem x_add (ha : XD M X a σ F H (.int i)) (hb : XD M X b σ F H (.int j)) : XD M X (.BinOp a .Add b pos) σ F H (.int (i + j)) := x_ii (f := fun i j => i + j) op_add ha hb
theorem x_sub (ha : XD M X a σ F H (.int i)) (hb : XD M X b σ F H (.int j)) : XD M X (.BinOp a .Sub b pos) σ F H (.int (i - j)) := x_ii (f := fun i j => i - j) op_sub ha hb
theorem x_mulR (ha : XD M X a σ F H (.int i)) (hb : XD M X b σ F H (.int j)) (h : -(2 ^ 64) < j ∧ j < 2 ^ 64) : XD M X (.BinOp a .Mult b pos) σ F H (.int (i * j)) := x_iiC (f := fun i j => i * j) op_mul ha hb (.inr h)
theorem x_mulL (ha : XD M X a σ F H (.int i)) (hb : XD M X b σ F H (.int j)) (h : -(2 ^ 64) < i ∧ i < 2 ^ 64) : XD M X (.BinOp a .Mult b pos) σ F H (.int (i * j)) := x_iiC (f := fun i j => i * j) op_mul ha hb (.inl h)
theorem x_mod (ha : XD M X a σ F H (.int i)) (hb : XD M X b σ F H (.int j)) (h : 0 < j) : XD M X (.BinOp a .Mod b pos) σ F H (.int (i % j)) := x_iiC (f := fun i j => i % j) op_mod ha hb h
theorem x_fdiv (ha : XD M X a σ F H (.int i)) (hb : XD M X b σ F H (.int j)) (h : 0 < j ∧ j < 1073741824) : XD M X (.BinOp a .FloorDiv b pos) σ F H (.int (i / j)) := x_iiC (f := fun i j => i / j) op_fdiv ha hb h
theorem x_neg (ha : XD M X a σ F H (.int i)) : XD M X (.UnaryOp .USub a pos) σ F H (.int (-i)) := by
  refine ⟨fun F1 H1 g Q q => ?_⟩
  refine WE.of (pe_un un_neg WE.pe) ?_
  refine ha.run F1 H1 g _ fun x F2 H2 g2 r2 => ?_
  cases r2
  exact ⟨_, rfl, q _ F2 H2 g2 (.int _)⟩
theorem x_adds {x y : Str} (ha : XD M X a σ F H (.str x)) (hb : XD M X b σ F H (.str y)) (h : x.length + y.length ≤ sizeLine) : XD M X (.BinOp a .Add b pos) σ F H (.str (x ++ y)) :=
  x_bin op_add_str ha hb fun x y F1 H1 g rx ry Q q => by
    cases rx
    cases ry
    exact ⟨_, _, rfl, rfl, h, q _ F1 H1 (Grow.refl g.le) (.str _)⟩
/-- a list and a list -/
theorem x_addl {ds1 ds2 : List PyData} (ha : XD M X a σ F H (.list ds1)) (hb : XD M X b σ F H (.list ds2)) (h : ds1.length + ds2.length ≤ sizeLine) : XO M X (.BinOp a .Add b pos) σ F H (ds1 ++ ds2) := by
  refine ⟨fun F1 H1 g Q q => ?_⟩
  refine WE.of (pe_op op_cat WE.pe WE.pe) ?_
  refine ha.run F1 H1 g _ fun x F2 H2 g2 r2 => ?_
  refine hb.run F2 H2 (g.trans g2) _ fun y F3 H3 g3 r3 => ?_
  have r2' := r2.mono g3.ex
  cases r2' with
  | lst h1 s1 =>
    cases r3 with
    | lst h2 s2 =>
      refine ⟨_, _, _, _, rfl, rfl, g3.le _ _ h1, g3.le _ _ h2, by rw [s1.len, s2.len]; exact h, fun p hp => ?_⟩
      exact q p _ F3 _ ((g2.trans g3).trans (Grow.own g3.le hp)) (g3.le.free hp) ((g2.trans g3).kp.free hp) upd_same (s1.app s2)
/-! ### comparisons -/
theorem x_cmp {op : CmpOp} {r : R2} (ho : OpR X (compareOp op) r) (hm : behindInMarks op b = false) (ha : XH M X a σ F H d1) (hb : XH M X b σ F H d2) {c : Bool}
    (hr : ∀ x y F1 H1, Grow F H F1 H1 → Dn M.K H1 x d1 → Dn M.K H1 y d2 → ∀ Q : VK, (∀ F' H', Grow F1 H1 F' H' → Q (.bl c) H') → r x y H1 Q) : XD M X (.Compare a [op] [b] pos) σ F H (.bool c) := by
  refine ⟨fun F1 H1 g Q q => ?_⟩
  refine WE.of (pe_cmpR ho WE.pe WE.pe hm) ?_
  refine ha.run F1 H1 g _ fun x F2 H2 g2 r2 => ?_
  refine hb.run F2 H2 (g.trans g2) _ fun y F3 H3 g3 r3 => ?_
  exact hr x y F3 H3 ((g.trans g2).trans g3) (r2.mono g3.kp) r3 Q fun F' H' g' => q _ F' H' ((g2.trans g3).trans g') (.bl c)
theorem b_cmp {op : CmpOp} {r : R2} (ho : OpR X (compareOp op) r) (hm : behindInMarks op b = false) (ha : XH M X a σ F H d1) (hb : XH M X b σ F H d2) {c : Bool}
    (hr : ∀ x y F1 H1, Grow F H F1 H1 → Dn M.K H1 x d1 → Dn M.K H1 y d2 → ∀ Q : VK, (∀ F' H', Grow F1 H1 F' H' → Q (.bl c) H') → r x y H1 Q) : XB M X (.Compare a [op] [b] pos) σ F H c := by
  refine ⟨fun F1 H1 g Q q => ?_⟩
  refine WT.of (pt_cmpR ho WE.pe WE.pe hm) ?_
  refine ha.run F1 H1 g _ fun x F2 H2 g2 r2 => ?_
  refine hb.run F2 H2 (g.trans g2) _ fun y F3 H3 g3 r3 => ?_
  exact hr x y F3 H3 ((g.trans g2).trans g3) (r2.mono g3.kp) r3 _ fun F' H' g' => ⟨c, rfl, q F' H' ((g2.trans g3).trans g')⟩
/-- a datum that == looks through -/
def Pl (d : PyData) : Prop := SeqAt.shaped d = true
theorem Pl.can (h : Pl d) : d.canLay0 = true := SeqAt.canLay_of_shaped h
theorem eq_rule (o : Ok M X N sc k) (p1 : Pl d1) (p2 : Pl d2) : ∀ x y F1 H1, Grow F H F1 H1 → Dn M.K H1 x d1 → Dn M.K H1 y d2 → ∀ Q : VK, (∀ F' H', Grow F1 H1 F' H' → Q (.bl (PyData.eqv d1 d2)) H') → rEqD X.K x y H1 Q :=
  fun x y F1 H1 g rx ry Q q => ⟨d1, d2, by rw [o.eK]; exact rx.dp p1.can, by rw [o.eK]; exact ry.dp p2.can, p1, p2, q F1 H1 (Grow.refl g.le)⟩
theorem ne_rule (o : Ok M X N sc k) (p1 : Pl d1) (p2 : Pl d2) : ∀ x y F1 H1, Grow F H F1 H1 → Dn M.K H1 x d1 → Dn M.K H1 y d2 → ∀ Q : VK, (∀ F' H', Grow F1 H1 F' H' → Q (.bl (!PyData.eqv d1 d2)) H') → rNeD X.K x y H1 Q :=
  fun x y F1 H1 g rx ry Q q => ⟨d1, d2, by rw [o.eK]; exact rx.dp p1.can, by rw [o.eK]; exact ry.dp p2.can, p1, p2, q F1 H1 (Grow.refl g.le)⟩
theorem x_eq (o : Ok M X N sc k) (ha : XH M X a σ F H d1) (hb : XH M X b σ F H d2) (p1 : Pl d1) (p2 : Pl d2) : XD M X (.Compare a [.Eq] [b] pos) σ F H (.bool (PyData.eqv d1 d2)) :=
  x_cmp (op_eqD o.room.units) (nomark _) ha hb (eq_rule o p1 p2)
theorem x_ne (o : Ok M X N sc k) (ha : XH M X a σ F H d1) (hb : XH M X b σ F H d2) (p1 : Pl d1) (p2 : Pl d2) : XD M X (.Compare a [.NotEq] [b] pos) σ F H (.bool (!PyData.eqv d1 d2)) :=
  x_cmp (op_neD o.room.units) (nomark _) ha hb (ne_rule o p1 p2)
theorem b_eq (o : Ok M X N sc k) (ha : XH M X a σ F H d1) (hb : XH M X b σ F H d2) (p1 : Pl d1) (p2 : Pl d2) : XB M X (.Compare a [.Eq] [b] pos) σ F H (PyData.eqv d1 d2) :=
  b_cmp (op_eqD o.room.units) (nomark _) ha hb (eq_rule o p1 p2)
theorem b_ne (o : Ok M X N sc k) (ha : XH M X a σ F H d1) (hb : XH M X b σ F H d2) (p1 : Pl d1) (p2 : Pl d2) : XB M X (.Compare a [.NotEq] [b] pos) σ F H (!PyData.eqv d1 d2) :=
  b_cmp (op_neD o.room.units) (nomark _) ha hb (ne_rule o p1 p2)
theorem cmpI_rule {g : Int → Int → Bool} : ∀ x y F1 H1, Grow F H F1 H1 → Dn M.K H1 x (.int i) → Dn M.K H1 y (.int j) → ∀ Q : VK, (∀ F' H', Grow F1 H1 F' H' → Q (.bl (g i j)) H') → rI0 (fun i j => .bl (g i j)) x y H1 Q :=
  fun x y F1 H1 g' rx ry Q q => by
    cases rx
    cases ry
    exact ⟨_, _, rfl, rfl, q F1 H1 (Grow.refl g'.le)⟩
theorem x_lt (ha : XH M X a σ F H (.int i)) (hb : XH M X b σ F H (.int j)) : XD M X (.Compare a [.Lt] [b] pos) σ F H (.bool (decide (i < j))) := x_cmp op_lt (nomark _) ha hb (cmpI_rule (g := fun i j => decide (i < j)))
theorem x_le (ha : XH M X a σ F H (.int i)) (hb : XH M X b σ F H (.int j)) : XD M X (.Compare a [.LtE] [b] pos) σ F H (.bool (decide (i ≤ j))) := x_cmp op_le (nomark _) ha hb (cmpI_rule (g := fun i j => decide (i ≤ j)))
theorem x_gt (ha : XH M X a σ F H (.int i)) (hb : XH M X b σ F H (.int j)) : XD M X (.Compare a [.Gt] [b] pos) σ F H (.bool (decide (j < i))) := x_cmp op_gt (nomark _) ha hb (cmpI_rule (g := fun i j => decide (j < i)))
theorem x_ge (ha : XH M X a σ F H (.int i)) (hb : XH M X b σ F H (.int j)) : XD M X (.Compare a [.GtE] [b] pos) σ F H (.bool (decide (j ≤ i))) := x_cmp op_ge (nomark _) ha hb (cmpI_rule (g := fun i j => decide (j ≤ i)))
theorem b_lt (ha : XH M X a σ F H (.int i)) (hb : XH M X b σ F H (.int j)) : XB M X (.Compare a [.Lt] [b] pos) σ F H (decide (i < j)) := b_cmp op_lt (nomark _) ha hb (cmpI_rule (g := fun i j => decide (i < j)))
theorem b_le (ha : XH M X a σ F H (.int i)) (hb : XH M X b σ F H (.int j)) : XB M X (.Compare a [.LtE] [b] pos) σ F H (decide (i ≤ j)) := b_cmp op_le (nomark _) ha hb (cmpI_rule (g := fun i j => decide (i ≤ j)))
theorem b_gt (ha : XH M X a σ F H (.int i)) (hb : XH M X b σ F H (.int j)) : XB M X (.Compare a [.Gt] [b] pos) σ F H (decide (j < i)) := b_cmp op_gt (nomark _) ha hb (cmpI_rule (g := fun i j => decide (j < i)))
theorem b_ge (ha : XH M X a σ F H (.int i)) (hb : XH M X b σ F H (.int j)) : XB M X (.Compare a [.GtE] [b] pos) σ F H (decide (j ≤ i)) := b_cmp op_ge (nomark _) ha hb (cmpI_rule (g := fun i j => decide (j ≤ i)))
/-- lo <= x <= hi, and the like -/
theorem x_chain {op op' : CmpOp} {g g' : Int → Int → Bool} {c : Expr} {l : Int} (h1 : OpR X (compareOp op) (rI0 fun i j => .bl (g i j))) (h2 : OpR X (compareOp op') (rI0 fun i j => .bl (g' i j)))
    (ha : XD M X a σ F H (.int i)) (hb : XD M X b σ F H (.int j)) (hc : XD M X c σ F H (.int l)) (hm : lastMarks [op, op'] [b, c] = false := by with_unfolding_all rfl) : XD M X (.Compare a [op, op'] [b, c] pos) σ F H (.bool (g i j && g' j l)) := by
  refine ⟨fun F1 H1 gr Q q => ?_⟩
  refine WE.of (pe_chain h1 h2 WE.pe WE.pe WE.pe hm) ?_
  refine ha.run F1 H1 gr _ fun x F2 H2 g2 r2 => ?_
  refine hb.run F2 H2 (gr.trans g2) _ fun y F3 H3 g3 r3 => ?_
  cases r2
  cases r3
  refine ⟨_, _, rfl, rfl, _, rfl, ?_⟩
  cases e : g i j with
  | true =>
    show WE X c σ H3 _
    refine hc.run F3 H3 ((gr.trans g2).trans g3) _ fun z F4 H4 g4 r4 => ?_
    cases r4
    exact ⟨_, _, rfl, rfl, q _ F4 H4 ((g2.trans g3).trans g4) (by rw [e, Bool.true_and]; exact .bl _)⟩
  | false =>
    show Q (.bl false) H3
    exact q _ F3 H3 (g2.trans g3) (by rw [e, Bool.false_and]; exact .bl _)
theorem b_chain {op op' : CmpOp} {g g' : Int → Int → Bool} {c : Expr} {l : Int} (h1 : OpR X (compareOp op) (rI0 fun i j => .bl (g i j))) (h2 : OpR X (compareOp op') (rI0 fun i j => .bl (g' i j)))
    (ha : XD M X a σ F H (.int i)) (hb : XD M X b σ F H (.int j)) (hc : XD M X c σ F H (.int l)) (hm : lastMarks [op, op'] [b, c] = false := by with_unfolding_all rfl) : XB M X (.Compare a [op, op'] [b, c] pos) σ F H (g i j && g' j l) := by
  refine ⟨fun F1 H1 gr Q q => ?_⟩
  refine WT.of (pt_chain h1 h2 WE.pe WE.pe WE.pe hm) ?_
  refine ha.run F1 H1 gr _ fun x F2 H2 g2 r2 => ?_
  refine hb.run F2 H2 (gr.trans g2) _ fun y F3 H3 g3 r3 => ?_
  cases r2
  cases r3
  refine ⟨_, _, rfl, rfl, _, rfl, ?_⟩
  cases e : g i j with
  | true =>
    show WE X c σ H3 _
    refine hc.run F3 H3 ((gr.trans g2).trans g3) _ fun z F4 H4 g4 r4 => ?_
    cases r4
    exact ⟨_, _, rfl, rfl, _, rfl, by rw [e, Bool.true_and] at q; exact q F4 H4 ((g2.trans g3).trans g4)⟩
  | false => exact ⟨false, rfl, by rw [e, Bool.false_and] at q; exact q F3 H3 (g2.trans g3)⟩
def isNone : PyData → Bool
  | .none => true
  | _ => false
theorem isN_of : ∀ (v : V) (G : Hp), Dn M.K G v d → decide (v = V.non) = isNone d := fun v G r => by
  cases r <;> rfl
theorem b_isN (ha : XH M X a σ F H d1) {c : Nat} {p : Pos} : XB M X (.Compare a [.Is] [.Constant .none c p] pos) σ F H (isNone d1) := by
  refine ⟨fun F1 H1 g Q q => ?_⟩
  refine WT.of (pt_cmpR op_isN WE.pe pe_non (nomark _)) ?_
  refine ha.run F1 H1 g _ fun x F2 H2 g2 r2 => ?_
  exact ⟨rfl, _, by rw [isN_of x H2 r2], q F2 H2 g2⟩
theorem b_notN (ha : XH M X a σ F H d1) {c : Nat} {p : Pos} : XB M X (.Compare a [.IsNot] [.Constant .none c p] pos) σ F H (!isNone d1) := by
  refine ⟨fun F1 H1 g Q q => ?_⟩
  refine WT.of (pt_cmpR op_notN WE.pe pe_non (nomark _)) ?_
  refine ha.run F1 H1 g _ fun x F2 H2 g2 r2 => ?_
  exact ⟨rfl, _, by rw [isN_of x H2 r2], q F2 H2 g2⟩

/-! ### tests -/
theorem b_val {c : Bool} (h : XD M X e σ F H (.bool c)) (he : ∀ whole, isTrue e X.env whole = (do let v ← whole; standAt e.pos; holding [v] (truthy v)) := by intro _; rfl) : XB M X e σ F H c := by
  refine ⟨fun F1 H1 g Q q => ?_⟩
  refine WT.of (pt_val WE.pe he) ?_
  refine h.run F1 H1 g _ fun v F' H' g' r => ?_
  cases r
  exact ⟨c, rfl, q F' H' g'⟩
theorem b_not {c : Bool} (h : XB M X e σ F H c) : XB M X (.UnaryOp .Not e pos) σ F H (!c) := by
  refine ⟨fun F1 H1 g Q q => ?_⟩
  refine WT.of (pt_not WT.pt) ?_
  exact h.run F1 H1 g _ fun F' H' g' => q F' H' g'
theorem XW.xb {c : Bool} (h : XW M X e σ F H c) : XB M X e σ F H c := ⟨fun F1 H1 g Q q => ⟨fun pins s I => (h.run F1 H1 g Q q).run _ pins s I⟩⟩
theorem w_and1 {c : Bool} (h : XB M X a σ F H c) : XW M X (.BoolOp .And [a] pos) σ F H c := by
  refine ⟨fun F1 H1 g Q q => ?_⟩
  exact WW.of (pw_and1 WT.pt) (h.run F1 H1 g _ fun F' H' g' => q F' H' g')
theorem w_or1 {c : Bool} (h : XB M X a σ F H c) : XW M X (.BoolOp .Or [a] pos) σ F H c := by
  refine ⟨fun F1 H1 g Q q => ?_⟩
  exact WW.of (pw_or1 WT.pt) (h.run F1 H1 g _ fun F' H' g' => q F' H' g')
theorem w_and {c c' : Bool} {rest : List Expr} (h : XB M X a σ F H c) (h' : c = true → XW M X (.BoolOp .And (b :: rest) pos) σ F H c') : XW M X (.BoolOp .And (a :: b :: rest) pos) σ F H (c && c') := by
  refine ⟨fun F1 H1 g Q q => ?_⟩
  refine WW.of (pw_and WT.pt WW.pw) ?_
  refine h.run F1 H1 g _ fun F2 H2 g2 => ?_
  cases c with
  | true =>
    show WW X _ σ H2 Q
    exact (h' rfl).run F2 H2 (g.trans g2) _ fun F' H' g' => q F' H' (g2.trans g')
  | false =>
    show Q false H2
    exact q F2 H2 g2
theorem w_or {c c' : Bool} {rest : List Expr} (h : XB M X a σ F H c) (h' : c = false → XW M X (.BoolOp .Or (b :: rest) pos) σ F H c') : XW M X (.BoolOp .Or (a :: b :: rest) pos) σ F H (c || c') := by
  refine ⟨fun F1 H1 g Q q => ?_⟩
  refine WW.of (pw_or WT.pt WW.pw) ?_
  refine h.run F1 H1 g _ fun F2 H2 g2 => ?_
  cases c with
  | true =>
    show Q true H2
    exact q F2 H2 g2
  | false =>
    show WW X _ σ H2 Q
    exact (h' rfl).run F2 H2 (g.trans g2) _ fun F' H' g' => q F' H' (g2.trans g')
/-- and, or, not as values -/
theorem v_one {op : BoolOp} (h : XD M X a σ F H d) : XD M X (.BoolOp op [a] pos) σ F H d := ⟨fun F1 H1 g Q q => WE.of (pe_one WE.pe) (h.run F1 H1 g Q q)⟩
theorem v_and {c c' : Bool} {rest : List Expr} (h : XD M X a σ F H (.bool c)) (h' : c = true → XD M X (.BoolOp .And (b :: rest) pos) σ F H (.bool c')) : XD M X (.BoolOp .And (a :: b :: rest) pos) σ F H (.bool (c && c')) := by
  refine ⟨fun F1 H1 g Q q => ?_⟩
  refine WE.of (pe_and WE.pe WE.pe) ?_
  refine h.run F1 H1 g _ fun v F2 H2 g2 r => ?_
  cases r
  refine ⟨c, rfl, ?_⟩
  cases c with
  | true =>
    show WE X _ σ H2 Q
    exact (h' rfl).run F2 H2 (g.trans g2) _ fun v F' H' g' r' => q v F' H' (g2.trans g') r'
  | false =>
    show Q (.bl false) H2
    exact q _ F2 H2 g2 (.bl _)
theorem v_or {c c' : Bool} {rest : List Expr} (h : XD M X a σ F H (.bool c)) (h' : c = false → XD M X (.BoolOp .Or (b :: rest) pos) σ F H (.bool c')) : XD M X (.BoolOp .Or (a :: b :: rest) pos) σ F H (.bool (c || c')) := by
  refine ⟨fun F1 H1 g Q q => ?_⟩
  refine WE.of (pe_or WE.pe WE.pe) ?_
  refine h.run F1 H1 g _ fun v F2 H2 g2 r => ?_
  cases r
  refine ⟨c, rfl, ?_⟩
  cases c with
  | true =>
    show Q (.bl true) H2
    exact q _ F2 H2 g2 (.bl _)
  | false =>
    show WE X _ σ H2 Q
    exact (h' rfl).run F2 H2 (g.trans g2) _ fun v F' H' g' r' => q v F' H' (g2.trans g') r'
theorem v_not {c : Bool} (h : XD M X a σ F H (.bool c)) : XD M X (.UnaryOp .Not a pos) σ F H (.bool (!c)) := by
  refine ⟨fun F1 H1 g Q q => ?_⟩
  refine WE.of (pe_not WE.pe) ?_
  refine h.run F1 H1 g _ fun v F2 H2 g2 r => ?_
  cases r
  exact ⟨c, rfl, q _ F2 H2 g2 (.bl _)⟩

/-! ### arguments, tuples, lists -/
theorem a_nil : XA M X [] σ F H [] := ⟨fun F1 H1 g Q q => WA.of pa_nil (q [] F1 H1 (Grow.refl g.le) .nil)⟩
theorem a_cons (h : XD M X e σ F H d) (hr : XA M X es σ F H ds) (hs : starEach (e :: es) X.env = (false, eval e X.env) :: starEach es X.env := by rfl) : XA M X (e :: es) σ F H (d :: ds) := by
  refine ⟨fun F1 H1 g Q q => ?_⟩
  refine WA.of (pa_cons WE.pe WA.pa hs) ?_
  refine h.run F1 H1 g _ fun v F2 H2 g2 r2 => ?_
  refine hr.run F2 H2 (g.trans g2) _ fun vs F3 H3 g3 r3 => ?_
  exact q _ F3 H3 (g2.trans g3) (.cons (r2.mono g3.ex) r3)
theorem x_tup {c : Nat} (h : XA M X es σ F H ds) (hz : ds.length ≤ 100000 := by decide) : XD M X (.Tuple es c pos) σ F H (.tuple ds) := by
  refine ⟨fun F1 H1 g Q q => ?_⟩
  refine WE.of (pe_tup WA.pa) ?_
  refine h.run F1 H1 g _ fun vs F2 H2 g2 r2 => ⟨?_, fun p hp => ?_⟩
  · rw [r2.len]
    exact Nat.le_trans hz (by decide)
  · have gA : Grow F2 H2 (upd F2 p (.tup vs)) (upd H2 p (.tup vs)) := Grow.add g2.le hp
    exact q _ _ _ (g2.trans gA) (.tup (SqT.of upd_same) (r2.mono gA.ex))
theorem x_lst (h : XA M X es σ F H ds) (hz : ds.length ≤ 100000 := by decide) : XO M X (.List es pos) σ F H ds := by
  refine ⟨fun F1 H1 g Q q => ?_⟩
  refine WE.of (pe_lst WA.pa) ?_
  refine h.run F1 H1 g _ fun vs F2 H2 g2 r2 => ⟨?_, fun p hp => ?_⟩
  · rw [r2.len]
    exact Nat.le_trans hz (by decide)
  · exact q p vs F2 _ (g2.trans (Grow.own g2.le hp)) (g2.le.free hp) (g2.kp.free hp) upd_same r2

/-! ### items -/
theorem x_ixT (o : Ok0 M X N sc) (ha : XD M X a σ F H (.tuple ds)) (hb : XD M X b σ F H (.int i)) (hd : atI ds i = some d) (hp : PlainIx b := by exact fun _ _ => rfl) : XD M X (.Subscript a b pos) σ F H d := by
  refine ⟨fun F1 H1 g Q q => ?_⟩
  refine WE.of (pe_ix ix_tup WE.pe WE.pe hp) ?_
  refine ha.run F1 H1 g _ fun x F2 H2 g2 r2 => ?_
  refine hb.run F2 H2 (g.trans g2) _ fun y F3 H3 g3 r3 => ?_
  cases r3
  cases r2 with
  | tup h s =>
    unfold atI at hd
    cases e : ixN ds.length i with
    | none =>
      rw [e] at hd
      cases hd
    | some j =>
      rw [e] at hd
      obtain ⟨v, e1, r⟩ := s.get hd
      refine ⟨_, _, i, v, rfl, rfl, by rw [o.eK]; exact sqt_mono (g3.ex.trans g3.le) h, ?_, q v F3 H3 (g2.trans g3) (r.mono g3.ex)⟩
      unfold atI
      rw [s.len, e]
      exact e1
theorem x_ixL (o : Ok0 M X N sc) (ha : XD M X a σ F H (.list ds)) (hb : XD M X b σ F H (.int i)) (hd : atI ds i = some d) (hp : PlainIx b := by exact fun _ _ => rfl) : XD M X (.Subscript a b pos) σ F H d := by
  refine ⟨fun F1 H1 g Q q => ?_⟩
  refine WE.of (pe_ix ix_list WE.pe WE.pe hp) ?_
  refine ha.run F1 H1 g _ fun x F2 H2 g2 r2 => ?_
  refine hb.run F2 H2 (g.trans g2) _ fun y F3 H3 g3 r3 => ?_
  cases r3
  cases r2 with
  | lst h s =>
    unfold atI at hd
    cases e : ixN ds.length i with
    | none =>
      rw [e] at hd
      cases hd
    | some j =>
      rw [e] at hd
      obtain ⟨v, e1, r⟩ := s.get hd
      refine ⟨_, _, i, v, rfl, rfl, by rw [o.eK]; exact SqL.of (g3.base _ _ h), ?_, q v F3 H3 (g2.trans g3) (r.mono g3.ex)⟩
      unfold atI
      rw [s.len, e]
      exact e1
theorem x_ixS {z : Str} {c : Nat} (ha : XD M X a σ F H (.str z)) (hb : XD M X b σ F H (.int i)) (hz : z.length ≤ 100000) (hd : atI z.cps.toList i = some c) (hp : PlainIx b := by exact fun _ _ => rfl) : XD M X (.Subscript a b pos) σ F H (.str ⟨#[c]⟩) := by
  refine ⟨fun F1 H1 g Q q => ?_⟩
  refine WE.of (pe_ix ix_str WE.pe WE.pe hp) ?_
  refine ha.run F1 H1 g _ fun x F2 H2 g2 r2 => ?_
  refine hb.run F2 H2 (g.trans g2) _ fun y F3 H3 g3 r3 => ?_
  cases r3
  cases r2
  exact ⟨z, i, c, rfl, rfl, Nat.le_trans hz (by decide), hd, q _ F3 H3 (g2.trans g3) (.str _)⟩
end

/-! ### statements -/
section
variable {M : Md} {X : Cx} {N : List Str} {sc : Scope} {k : Nat} {σ : L2.St} {env : List (Option PyData)} {F H : Hp} {d : PyData} {ds : List PyData} {e : Expr} {st : Stmt} {rest body orelse : List Stmt} {D : Ends} {pos p : Pos}
theorem s_nil (h : D.nx σ H) : WS X [] D σ H := WS.of pss_nil h
theorem s_cons (h : W1 X st { D with nx := fun σ' H' => WS X rest D σ' H' } σ H) : WS X (st :: rest) D σ H := WS.of (pss_cons W1.ps WS.ps) h
theorem s_one (h : W1 X st D σ H) : WS X [st] D σ H := WS.of (pss_one W1.ps) h
/-- a cut: what follows is shown once -/
theorem s_cut (Mid : L2.St → Hp → Prop) (h : W1 X st { D with nx := Mid } σ H) (h2 : ∀ σ' H', Mid σ' H' → WS X rest D σ' H') : WS X (st :: rest) D σ H := by
  refine s_cons ⟨fun pins s I => thn (h.run pins s I) fun f s1 q => ?_⟩
  cases f with
  | next =>
    obtain ⟨σ', H', I', m⟩ := q
    exact ⟨σ', H', I', h2 σ' H' m⟩
  | brk => exact q
  | cont => exact q
  | ret u => exact q
theorem s_ret (h : XD M X e σ F H d) (le : Same F H) (kk : ∀ v F' H', Grow F H F' H' → Dn M.K F' v d → D.rt v H') : W1 X (.Return (some e) pos) D σ H :=
  W1.of (ps_ret WE.pe) (h.run F H (Grow.refl le) _ kk)
theorem s_retO (h : XO M X e σ F H ds) (le : Same F H) (kk : ∀ p vs F' H', Grow F H F' H' → F' p = none → H p = none → H' p = some (.lst vs) → Dns M.K F' vs ds → D.rt (.ref p) H') : W1 X (.Return (some e) pos) D σ H :=
  W1.of (ps_ret WE.pe) (h.run F H (Grow.refl le) _ kk)
def locB (sc : Scope) (x : Str) : Bool := match sc.names.lookup x with
  | some .local => true
  | some .cell => true
  | _ => false
theorem loc_of {x : Str} (h : locB sc x = true) : L2.Loc sc x := by
  unfold locB at h
  unfold L2.Loc
  split at h
  · rename_i e; exact .inl e
  · rename_i e; exact .inr e
  · cases h
theorem s_setW (o : Ok0 M X N sc) (fs : Fs X) (i : Nat) {x : Str} (h : WE X e σ H fun v H' => D.nx (σ.set i (some v)) H') (hN : N[i]? = some x := by rfl) (hl : locB sc x = true := by decide +kernel)
    (hs : swapsWith e (some (.Name x p)) pos.line X.env = pure false := by rfl) : W1 X (.Assign [.Name x p] e pos) D σ H := by
  have hx : L2.Loc X.env.scope x := by
    rw [o.eS]
    exact loc_of hl
  exact W1.of (ps_set (by rw [o.eN]; exact o.nd) (by rw [o.eN]; exact hN) hx WE.pe hs (.inl (fs.fn x))) h
theorem s_set (o : Ok0 M X N sc) (fs : Fs X) (i : Nat) {x : Str} (h : XD M X e σ F H d) (le : Same F H) (kk : ∀ v F' H', Grow F H F' H' → Dn M.K F' v d → D.nx (σ.set i (some v)) H') (hN : N[i]? = some x := by rfl) (hl : locB sc x = true := by decide +kernel)
    (hs : swapsWith e (some (.Name x p)) pos.line X.env = pure false := by rfl) : W1 X (.Assign [.Name x p] e pos) D σ H :=
  s_setW o fs i (h.run F H (Grow.refl le) _ kk) hN hl hs
theorem s_setO (o : Ok0 M X N sc) (fs : Fs X) (i : Nat) {x : Str} (h : XO M X e σ F H ds) (le : Same F H) (kk : ∀ p vs F' H', Grow F H F' H' → F' p = none → H p = none → H' p = some (.lst vs) → Dns M.K F' vs ds → D.nx (σ.set i (some (.ref p))) H')
    (hN : N[i]? = some x := by rfl) (hl : locB sc x = true := by decide +kernel) (hs : swapsWith e (some (.Name x p)) pos.line X.env = pure false := by rfl) : W1 X (.Assign [.Name x p] e pos) D σ H :=
  s_setW o fs i (h.run F H (Grow.refl le) _ kk) hN hl hs
theorem s_if {c : Bool} (h : XB M X e σ F H c) (le : Same F H) (ht : c = true → ∀ F' H', Grow F H F' H' → WS X body D σ H') (hf : c = false → ∀ F' H', Grow F H F' H' → WS X orelse D σ H') : W1 X (.If e body orelse pos) D σ H := by
  refine W1.of (ps_if WT.pt WS.ps WS.ps) ?_
  refine h.run F H (Grow.refl le) _ fun F' H' g => ?_
  cases c with
  | true => exact ht rfl F' H' g
  | false => exact hf rfl F' H' g
theorem s_expr (h : WE X e σ H fun _ H' => D.nx σ H') (hs : swapsWith e none pos.line X.env = pure false := by rfl) : W1 X (.Expr e pos) D σ H := W1.of (ps_expr WE.pe hs) h
end
end Lay

/-! Lay2: calls and promises, built-ins, comprehensions, loops. -/
namespace Lay
open PySem L2

/-! ### promises -/
inductive Out where
  | val (d : PyData) | own (ds : List PyData) | err (C : Addr)
def Done (K : PySem.W.Frag) (F H : Hp) (Q : VK) (E : XK) : Out → Prop
  | .val d => ∀ v F' H', Grow F H F' H' → Dn K F' v d → Q v H'
  | .own ds => ∀ p vs F' H', Grow F H F' H' → F' p = none → H p = none → H' p = some (.lst vs) → Dns K F' vs ds → Q (.ref p) H'
  | .err C => ∀ F' H', Grow F H F' H' → E (.ref C) none H'
theorem Done.grow {K : PySem.W.Frag} {F H G J : Hp} {Q : VK} {E : XK} {r : Out} (h : Done K F H Q E r) (g : Grow F H G J) : Done K G J Q E r := by
  cases r with
  | val d => exact fun v F' H' g' r => h v F' H' (g.trans g') r
  | own ds => exact fun p vs F' H' g' h1 h2 h3 r => h p vs F' H' (g.trans g') h1 (g.kp.free h2) h3 r
  | err C => exact fun F' H' g' => h F' H' (g.trans g')
/-- a def's promise: R tells what comes of the arguments -/
def spG (K : PySem.W.Frag) (R : List PyData → Out → Prop) : Sp := fun vs H Q E => ∃ F ds r, Same F H ∧ Dns K F vs ds ∧ R ds r ∧ Done K F H Q E r
structure Fc (M : Md) (C : CXT) (x : Str) (k : Nat) (sp : Sp) : Prop where
  ex : ∃ (f : Addr) (fd : FuncData) (ps : List Str), M.mg x = some (.ref f) ∧ PySem.W.keepIn M.K (.ref f) = true ∧ Binds M.K fd ps [] ∧ FnOk M.P M.w M.K M.mg M.base C k f fd ps sp

section
variable {M : Md} {X : Cx} {N : List Str} {sc : Scope} {k j : Nat} {σ : L2.St} {F H : Hp} {d : PyData} {ds es' : List PyData} {e : Expr} {es : List Expr} {pos p : Pos} {x : Str} {C : CXT} {sp : Sp} {R : List PyData → Out → Prop} {Q : VK} {E : XK}
theorem we_call (o : Ok M X N sc k) (fc : Fc M C x j sp) (hj : j ≤ k) (hx : Passes C X E) (h : WA X (e :: es) σ H fun vs H1 => sp vs H1 Q E) (hg : sc.names.lookup x = some .globalImplicit := by decide +kernel)
    (hdb : (x == ("__debug__" : Str)) = false := by decide +kernel) (he : starEach (e :: es) X.env = (false, eval e X.env) :: starEach es X.env := by rfl) (hpl : (backTo pos (starEach es X.env)).any (·.1) = false := by rfl) :
    WE X (.Call (.Name x p) (e :: es) [] pos) σ H Q := by
  obtain ⟨f, fd, ps, gm, kp, bd, ok⟩ := fc.ex
  rw [← o.eP, ← o.eW, ← o.eK, ← o.eG, ← o.eB] at ok
  refine WE.of (pe_call (dvs := []) ok (o.room.mono hj) (gl_of o.toOk0 hg) (by rw [o.eG]; exact gm) (by rw [o.eK]; exact kp) (by rw [o.eK]; exact bd) .nil hx WA.pa hdb he hpl) ?_
  exact ⟨fun pos' pins s I => thn (h.run pos' pins s I) fun us s1 ⟨vs, H1, I1, r, q⟩ => ⟨vs, H1, I1, r, by
    show sp (vs ++ []) H1 Q E
    rw [List.append_nil]
    exact q⟩⟩
theorem we_call0 (o : Ok M X N sc k) (fc : Fc M C x j sp) (hj : j ≤ k) (hx : Passes C X E) (h : sp [] H Q E) (hg : sc.names.lookup x = some .globalImplicit := by decide +kernel)
    (hdb : (x == ("__debug__" : Str)) = false := by decide +kernel) : WE X (.Call (.Name x p) [] [] pos) σ H Q := by
  obtain ⟨f, fd, ps, gm, kp, bd, ok⟩ := fc.ex
  rw [← o.eP, ← o.eW, ← o.eK, ← o.eG, ← o.eB] at ok
  exact WE.of (pe_call0 (dvs := []) ok (o.room.mono hj) (gl_of o.toOk0 hg) (by rw [o.eG]; exact gm) (by rw [o.eK]; exact kp) (by rw [o.eK]; exact bd) .nil hx hdb) h
/-- what a promise's own wish of errors says -/
def Pz (M : Md) (C : CXT) : Prop := ∀ X : Cx, X.prog = M.P → X.w = M.w → Passes C X E0
theorem pz0 : Pz M CX0 := fun X _ _ => pass0
theorem pzX : Pz M (L2.CX M.P M.w) := fun X h1 h2 => by
  rw [← h1, ← h2]
  exact passL
theorem x_call (o : Ok M X N sc k) (fc : Fc M C x j (spG M.K R)) (pz : Pz M C) (ha : XA M X (e :: es) σ F H ds) (r : R ds (.val d)) (hj : j ≤ k := by decide) (hg : sc.names.lookup x = some .globalImplicit := by decide +kernel)
    (hdb : (x == ("__debug__" : Str)) = false := by decide +kernel) (he : starEach (e :: es) X.env = (false, eval e X.env) :: starEach es X.env := by rfl) (hpl : (backTo pos (starEach es X.env)).any (·.1) = false := by rfl) :
    XD M X (.Call (.Name x p) (e :: es) [] pos) σ F H d := ⟨fun F1 H1 g Q q =>
  we_call o fc hj (pz X o.eP o.eW) (ha.run F1 H1 g _ fun vs F2 H2 g2 r2 => ⟨F2, ds, .val d, g2.le, r2, r, fun v F' H' g' r' => q v F' H' (g2.trans g') r'⟩) hg hdb he hpl⟩
theorem o_call (o : Ok M X N sc k) (fc : Fc M C x j (spG M.K R)) (pz : Pz M C) (ha : XA M X (e :: es) σ F H ds) (r : R ds (.own es')) (hj : j ≤ k := by decide) (hg : sc.names.lookup x = some .globalImplicit := by decide +kernel)
    (hdb : (x == ("__debug__" : Str)) = false := by decide +kernel) (he : starEach (e :: es) X.env = (false, eval e X.env) :: starEach es X.env := by rfl) (hpl : (backTo pos (starEach es X.env)).any (·.1) = false := by rfl) :
    XO M X (.Call (.Name x p) (e :: es) [] pos) σ F H es' := ⟨fun F1 H1 g Q q =>
  we_call o fc hj (pz X o.eP o.eW) (ha.run F1 H1 g _ fun vs F2 H2 g2 r2 => ⟨F2, ds, .own es', g2.le, r2, r, fun l vs' F' H' g' h1 h2 h3 r' => q l vs' F' H' (g2.trans g') h1 (g2.kp.free h2) h3 r'⟩) hg hdb he hpl⟩
theorem o_call0 (o : Ok M X N sc k) (fc : Fc M C x j (spG M.K R)) (pz : Pz M C) (r : R [] (.own es')) (hj : j ≤ k := by decide) (hg : sc.names.lookup x = some .globalImplicit := by decide +kernel)
    (hdb : (x == ("__debug__" : Str)) = false := by decide +kernel) : XO M X (.Call (.Name x p) [] [] pos) σ F H es' := ⟨fun F1 H1 g Q q =>
  we_call0 o fc hj (pz X o.eP o.eW) ⟨F1, [], .own es', g.le, .nil, r, q⟩ hg hdb⟩

/-! ### built-ins by name -/
theorem x_callB {id : String} {r : List V → Hp → VK → Prop} (o : Ok0 M X N sc) (hc : CallR X (.builtin id) r) (hm : M.mg x = none) (hv : bootBuiltins x = some (.builtin id)) (ha : XA M X (e :: es) σ F H ds)
    (hr : ∀ vs F1 H1, Grow F H F1 H1 → Dns M.K F1 vs ds → ∀ Q : VK, (∀ v F' H', Grow F1 H1 F' H' → Dn M.K F' v d → Q v H') → r vs H1 Q)
    (hg : sc.names.lookup x = some .globalImplicit := by decide +kernel) (hn : x ≠ "__name__" := by decide +kernel) (hdb : (x == ("__debug__" : Str)) = false := by decide +kernel)
    (he : starEach (e :: es) X.env = (false, eval e X.env) :: starEach es X.env := by rfl) (hpl : (backTo pos (starEach es X.env)).any (·.1) = false := by rfl) : XD M X (.Call (.Name x p) (e :: es) [] pos) σ F H d := ⟨fun F1 H1 g Q q =>
  WE.of (pe_callB hc (gl_of o hg) (by rw [o.eG]; exact hm) hv WA.pa hn hdb he hpl) (ha.run F1 H1 g _ fun vs F2 H2 g2 r2 => hr vs F2 H2 (g.trans g2) r2 Q fun v F' H' g' r' => q v F' H' (g2.trans g') r')⟩
theorem x_callTy {id : String} {r : List V → Hp → VK → Prop} (o : Ok0 M X N sc) (hc : CallR X (.type id) r) (hm : M.mg x = none) (hv : bootBuiltins x = some (.type id)) (ha : XA M X (e :: es) σ F H ds)
    (hr : ∀ vs F1 H1, Grow F H F1 H1 → Dns M.K F1 vs ds → ∀ Q : VK, (∀ v F' H', Grow F1 H1 F' H' → Dn M.K F' v d → Q v H') → r vs H1 Q)
    (hg : sc.names.lookup x = some .globalImplicit := by decide +kernel) (hn : x ≠ "__name__" := by decide +kernel) (hdb : (x == ("__debug__" : Str)) = false := by decide +kernel)
    (he : starEach (e :: es) X.env = (false, eval e X.env) :: starEach es X.env := by rfl) (hpl : (backTo pos (starEach es X.env)).any (·.1) = false := by rfl) : XD M X (.Call (.Name x p) (e :: es) [] pos) σ F H d := ⟨fun F1 H1 g Q q =>
  WE.of (pe_callTy hc (gl_of o hg) (by rw [o.eG]; exact hm) hv WA.pa hn hdb he hpl) (ha.run F1 H1 g _ fun vs F2 H2 g2 r2 => hr vs F2 H2 (g.trans g2) r2 Q fun v F' H' g' r' => q v F' H' (g2.trans g') r')⟩
theorem o_callB {id : String} {r : List V → Hp → VK → Prop} (o : Ok0 M X N sc) (hc : CallR X (.builtin id) r) (hm : M.mg x = none) (hv : bootBuiltins x = some (.builtin id)) (ha : XA M X (e :: es) σ F H ds)
    (hr : ∀ vs F1 H1, Grow F H F1 H1 → Dns M.K F1 vs ds → ∀ Q : VK, (∀ l vs F' H', Grow F1 H1 F' H' → F' l = none → H1 l = none → H' l = some (.lst vs) → Dns M.K F' vs es' → Q (.ref l) H') → r vs H1 Q)
    (hg : sc.names.lookup x = some .globalImplicit := by decide +kernel) (hn : x ≠ "__name__" := by decide +kernel) (hdb : (x == ("__debug__" : Str)) = false := by decide +kernel)
    (he : starEach (e :: es) X.env = (false, eval e X.env) :: starEach es X.env := by rfl) (hpl : (backTo pos (starEach es X.env)).any (·.1) = false := by rfl) : XO M X (.Call (.Name x p) (e :: es) [] pos) σ F H es' := ⟨fun F1 H1 g Q q =>
  WE.of (pe_callB hc (gl_of o hg) (by rw [o.eG]; exact hm) hv WA.pa hn hdb he hpl) (ha.run F1 H1 g _ fun vs F2 H2 g2 r2 => hr vs F2 H2 (g.trans g2) r2 Q fun l vs' F' H' g' h1 h2 h3 r' => q l vs' F' H' (g2.trans g') h1 (g2.kp.free h2) h3 r')⟩
/-- one argument, for a look -/
theorem x_callBh {id : String} {d0 : PyData} {r : List V → Hp → VK → Prop} (o : Ok0 M X N sc) (hc : CallR X (.builtin id) r) (hm : M.mg x = none) (hv : bootBuiltins x = some (.builtin id)) (ha : XH M X e σ F H d0)
    (hr : ∀ v F1 H1, Grow F H F1 H1 → Dn M.K H1 v d0 → ∀ Q : VK, (∀ v F' H', Grow F1 H1 F' H' → Dn M.K F' v d → Q v H') → r [v] H1 Q)
    (hg : sc.names.lookup x = some .globalImplicit := by decide +kernel) (hn : x ≠ "__name__" := by decide +kernel) (hdb : (x == ("__debug__" : Str)) = false := by decide +kernel)
    (he : starEach [e] X.env = (false, eval e X.env) :: starEach [] X.env := by rfl) (hpl : (backTo pos (starEach [] X.env)).any (·.1) = false := by rfl) : XD M X (.Call (.Name x p) [e] [] pos) σ F H d := ⟨fun F1 H1 g Q q =>
  WE.of (pe_callB hc (gl_of o hg) (by rw [o.eG]; exact hm) hv (pa_cons WE.pe pa_nil he) hn hdb he hpl) (ha.run F1 H1 g _ fun v F2 H2 g2 r2 => hr v F2 H2 (g.trans g2) r2 Q fun v F' H' g' r' => q v F' H' (g2.trans g') r')⟩
theorem x_len (o : Ok0 M X N sc) (hm : M.mg "len" = none) (ha : XH M X e σ F H (.list ds)) (hg : sc.names.lookup ("len" : Str) = some .globalImplicit := by decide +kernel)
    (he : starEach [e] X.env = (false, eval e X.env) :: starEach [] X.env := by rfl) (hpl : (backTo pos (starEach [] X.env)).any (·.1) = false := by rfl) : XD M X (.Call (.Name "len" p) [e] [] pos) σ F H (.int ds.length) :=
  x_callBh o call_len_seq hm boot_len ha (fun v F1 H1 g r Q q => by
    cases r with
    | lst h s => exact ⟨_, _, rfl, .inl (SqL.of h), by rw [s.len]; exact q _ F1 H1 (Grow.refl g.le) (.int _)⟩) hg (by decide +kernel) (by decide +kernel) he hpl
theorem x_lenT (o : Ok0 M X N sc) (hm : M.mg "len" = none) (ha : XH M X e σ F H (.tuple ds)) (hg : sc.names.lookup ("len" : Str) = some .globalImplicit := by decide +kernel)
    (he : starEach [e] X.env = (false, eval e X.env) :: starEach [] X.env := by rfl) (hpl : (backTo pos (starEach [] X.env)).any (·.1) = false := by rfl) : XD M X (.Call (.Name "len" p) [e] [] pos) σ F H (.int ds.length) :=
  x_callBh o call_len_seq hm boot_len ha (fun v F1 H1 g r Q q => by
    cases r with
    | tup h s => exact ⟨_, _, rfl, .inr (by rw [o.eK]; exact h), by rw [s.len]; exact q _ F1 H1 (Grow.refl g.le) (.int _)⟩) hg (by decide +kernel) (by decide +kernel) he hpl
theorem x_lenScr {ns : List Int} (o : Ok0 M X N sc) (hm : M.mg "len" = none) (ha : XH M X e σ F H (.dict [(.none, .list (ns.map PyData.int))])) (hg : sc.names.lookup ("len" : Str) = some .globalImplicit := by decide +kernel)
    (he : starEach [e] X.env = (false, eval e X.env) :: starEach [] X.env := by rfl) (hpl : (backTo pos (starEach [] X.env)).any (·.1) = false := by rfl) : XD M X (.Call (.Name "len" p) [e] [] pos) σ F H (.int ns.length) :=
  x_callBh o call_len_seq hm boot_len ha (fun v F1 H1 g r Q q => by
    generalize hd : PyData.dict [(.none, .list (ns.map PyData.int))] = d0 at r
    cases r with
    | scr h =>
      rename_i a ms
      have e1 : ms.map PyData.int = ns.map PyData.int := by injection hd with h1; injection h1 with h2 h3; injection h2 with h4 h5; injection h5 with h6; exact h6.symm
      have e2 : ms.length = ns.length := by
        have := congrArg List.length e1
        simpa using this
      exact ⟨_, _, rfl, .inl (by rw [o.eK]; exact h), by rw [List.length_map, e2]; exact q _ F1 H1 (Grow.refl g.le) (.int _)⟩
    | _ => cases hd) hg (by decide +kernel) (by decide +kernel) he hpl
theorem x_lenS {z : Str} (o : Ok0 M X N sc) (hm : M.mg "len" = none) (ha : XH M X e σ F H (.str z)) (hz : z.length ≤ 100000) (hg : sc.names.lookup ("len" : Str) = some .globalImplicit := by decide +kernel)
    (he : starEach [e] X.env = (false, eval e X.env) :: starEach [] X.env := by rfl) (hpl : (backTo pos (starEach [] X.env)).any (·.1) = false := by rfl) : XD M X (.Call (.Name "len" p) [e] [] pos) σ F H (.int z.length) :=
  x_callBh o call_len_str hm boot_len ha (fun v F1 H1 g r Q q => by
    cases r
    exact ⟨_, rfl, Nat.le_trans hz (by decide), q _ F1 H1 (Grow.refl g.le) (.int _)⟩) hg (by decide +kernel) (by decide +kernel) he hpl
/-- an item of the script -/
theorem x_ixScr {a b : Expr} {ns : List Int} {i : Nat} {z : Int} (o : Ok0 M X N sc) (ha : XD M X a σ F H (.dict [(.none, .list (ns.map PyData.int))])) (hb : XD M X b σ F H (.int (i : Int))) (hz : ns[i]? = some z) (hp : PlainIx b := by exact fun _ _ => rfl) :
    XD M X (.Subscript a b pos) σ F H (.int z) := by
  refine ⟨fun F1 H1 g Q q => ?_⟩
  refine WE.of (pe_ix ix_list WE.pe WE.pe hp) ?_
  refine ha.run F1 H1 g _ fun x F2 H2 g2 r2 => ?_
  refine hb.run F2 H2 (g.trans g2) _ fun y F3 H3 g3 r3 => ?_
  cases r3
  generalize hd : PyData.dict [(.none, .list (ns.map PyData.int))] = d0 at r2
  cases r2 with
  | scr h =>
    rename_i c ms
    have e1 : ms.map PyData.int = ns.map PyData.int := by injection hd with h1; injection h1 with h2 h3; injection h2 with h4 h5; injection h5 with h6; exact h6.symm
    have e2 : ms = ns := by
      have := congrArg (List.map fun d : PyData => match d with | .int i => i | _ => 0) e1
      simpa [Function.comp_def] using this
    subst e2
    refine ⟨_, _, _, .int z, rfl, rfl, by rw [o.eK]; exact sql_mono g3.base h, ?_, q _ F3 H3 (g2.trans g3) (.int z)⟩
    exact atI_nat (by rw [List.getElem?_map, hz]; rfl)
  | _ => cases hd
end

/-! ### comprehensions -/
/-- one stands in the block of a comprehension -/
theorem Ok.blk {M : Md} {X : Cx} {N : List Str} {sc : Scope} {k : Nat} (o : Ok M X N sc k) {s0 : Shared} {H0 : Hp} {scope : Scope} {cl : List (Str × Addr)} {C : Addr} {fp : List Addr} :
    Ok M (X.blk s0 H0 scope (compEnvC scope cl C X.env) fp) N (relS scope sc) k where
  eP := o.eP
  eW := o.eW
  eK := o.eK
  eG := o.eG
  eB := o.eB
  eN := o.eN
  eS := by
    rw [← o.eS]
    rfl
  nd := o.nd
  calm := o.calm
  room := o.room
  pass := PassesOwn.never

section
variable {M : Md} {X : Cx} {N : List Str} {sc scope : Scope} {k j : Nat} {σ : L2.St} {F H : Hp} {env : List (Option PyData)} {ds : List PyData} {elt iter : Expr} {pos tp : Pos} {x : Str} {own : List (Str × Nat)} {α : Type}
/-- the readings of a block's test and element, whatever the block's frame -/
structure BE (X : Cx) (scope : Scope) (e : Expr) (σ : L2.St) (H : Hp) (Q : VK) : Prop where
  run : ∀ (s0 : Shared) (H0 : Hp) (C : Addr) (cl : List (Str × Addr)) (fp : List Addr), WE (X.blk s0 H0 scope (compEnvC scope cl C X.env) fp) e σ H Q
structure BT (X : Cx) (scope : Scope) (e : Expr) (σ : L2.St) (H : Hp) (Q : Bool → Hp → Prop) : Prop where
  run : ∀ (s0 : Shared) (H0 : Hp) (C : Addr) (cl : List (Str × Addr)) (fp : List Addr), WT (X.blk s0 H0 scope (compEnvC scope cl C X.env) fp) e σ H Q
theorem BE.pe {e : Expr} (s0 : Shared) (H0 : Hp) (C : Addr) (cl : List (Str × Addr)) (fp : List Addr) : PE (X.blk s0 H0 scope (compEnvC scope cl C X.env) fp) e (BE X scope e) := ⟨fun pins s σ H Q I h => (h.run s0 H0 C cl fp).run pins s I⟩
theorem BT.pt {e : Expr} (s0 : Shared) (H0 : Hp) (C : Addr) (cl : List (Str × Addr)) (fp : List Addr) : PT (X.blk s0 H0 scope (compEnvC scope cl C X.env) fp) e (BT X scope e) := ⟨fun pins s σ H Q I h => (h.run s0 H0 C cl fp).run pins s I⟩
/-- what a turn of the block gives: the test, the element (none where there is no test) -/
structure Blk (M : Md) (X : Cx) (N : List Str) (sc scope : Scope) (k : Nat) (ifs : List Expr) (elt : Expr) (τ : L2.St) (F H : Hp) (b : Bool) (d : PyData) : Prop where
  tst : ∀ c, ifs = [c] → ∀ Y, Ok M Y N (relS scope sc) k → XB M Y c τ F H b
  elt : b = true → ∀ Y, Ok M Y N (relS scope sc) k → XD M Y elt τ F H d
theorem Blk.no {τ : L2.St} {d : PyData} (h : ∀ Y, Ok M Y N (relS scope sc) k → XD M Y elt τ F H d) : Blk M X N sc scope k [] elt τ F H true d := ⟨fun c e => (nomatch e), fun _ => h⟩
theorem Blk.one {τ : L2.St} {c : Expr} {b : Bool} {d : PyData} (ht : ∀ Y, Ok M Y N (relS scope sc) k → XB M Y c τ F H b) (h : b = true → ∀ Y, Ok M Y N (relS scope sc) k → XD M Y elt τ F H d) : Blk M X N sc scope k [c] elt τ F H b d :=
  ⟨fun c' e => by
    cases e
    exact ht, h⟩
def kept (zs : List α) (p : α → Bool) (g : α → PyData) : List PyData := (zs.filter p).map g
theorem kept_snoc (zs : List α) (z : α) (p : α → Bool) (g : α → PyData) : kept (zs ++ [z]) p g = kept zs p g ++ (if p z = true then [g z] else []) := by
  unfold kept
  rw [List.filter_append, List.map_append, List.filter_cons]
  split <;> rfl
theorem kept_len (zs : List α) (p : α → Bool) (g : α → PyData) : (kept zs p g).length ≤ zs.length := by
  unfold kept
  rw [List.length_map]
  exact List.length_filter_le _ _
/-- the new list within the comprehension: what it holds behind the items zs -/
def LcP (K : PySem.W.Frag) (F H : Hp) (D : Addr) (l : List PyData) (H' : Hp) : Prop := ∃ F' vs, Grow F H F' H' ∧ F' D = none ∧ H D = none ∧ H' D = some (.lst vs) ∧ Dns K F' vs l
/-- one turn, by the target's datum -/
theorem lc_turn {ifs : List Expr} {tt : TT} {vs : List Nat} {D : Addr} {l : List PyData} {v : V} {d e : PyData} {b : Bool} {H' : Hp} {ix : Nat} (o : Ok M X N sc k) (htt : (ifs = [] ∧ tt = tYes) ∨ ∃ c, ifs = [c] ∧ tt = BT X scope c) (hj : j ∈ vs)
    (P : LcP M.K F H D l H') (hl : l.length < 100000) (Fv : Same F H → Dn M.K F v d)
    (ht : ∀ F1 H1, Grow F H F1 H1 → Blk M X N sc scope k ifs elt ((wipe σ vs).set j (some v)) F1 H1 b e) (hb : ifs = [] → b = true) (le : Same F H) :
    gName j v (wipe σ vs) H' fun σ2 H2 => wipe σ2 vs = wipe σ vs ∧ tt σ2 H2 fun c H3 => if c = true then BE X scope elt σ2 H3 fun y H4 => ∃ acc, H4 D = some (.lst acc) ∧ acc.length < sizeLine ∧ LcP M.K F H D (l ++ (if b = true then [e] else [])) (upd H4 D (.lst (acc ++ [y]))) else LcP M.K F H D (l ++ (if b = true then [e] else [])) H3 := by
  obtain ⟨F', us, g, fD, hD, jD, r⟩ := P
  refine ⟨wipe_set σ vs hj, ?_⟩
  have T := ht F' H' g
  have elt_ok : b = true → ∀ F3 H3, Grow F' H' F3 H3 → BE X scope elt ((wipe σ vs).set j (some v)) H3 fun y H4 => ∃ acc, H4 D = some (.lst acc) ∧ acc.length < sizeLine ∧ LcP M.K F H D (l ++ (if b = true then [e] else [])) (upd H4 D (.lst (acc ++ [y]))) := by
    intro hb F3 H3 g3
    refine ⟨fun s0 H0 C cl fp => ?_⟩
    refine (T.elt hb _ o.blk).run F3 H3 g3 _ fun y F4 H4 g4 r4 => ?_
    have g34 := g3.trans g4
    have jD4 : H4 D = some (.lst us) := g34.kp D _ jD
    have f4 : F4 D = none := by
      refine g34.new D fD ?_
      rw [jD]
      intro z
      cases z
    refine ⟨us, jD4, ?_, F4, us ++ [y], (g.trans g34).set f4 hD, f4, hD, upd_same, ?_⟩
    · rw [r.len]
      exact Nat.lt_of_lt_of_le hl (by decide)
    · rw [if_pos hb]
      exact (r.mono g34.ex).app (.cons r4 .nil)
  rcases htt with ⟨hi, rfl⟩ | ⟨c, hi, rfl⟩
  · have hb' := hb hi
    show (if true = true then BE X scope elt ((wipe σ vs).set j (some v)) H' (fun y H4 => ∃ acc, H4 D = some (.lst acc) ∧ acc.length < sizeLine ∧ LcP M.K F H D (l ++ (if b = true then [e] else [])) (upd H4 D (.lst (acc ++ [y])))) else LcP M.K F H D (l ++ (if b = true then [e] else [])) H')
    rw [if_pos rfl]
    exact elt_ok hb' F' H' (Grow.refl g.le)
  · refine ⟨fun s0 H0 C cl fp => ?_⟩
    refine (T.tst c hi _ o.blk).run F' H' (Grow.refl g.le) _ fun F3 H3 g3 => ?_
    cases hc : b with
    | true =>
      rw [if_pos rfl]
      have := elt_ok hc F3 H3 g3
      rw [hc] at this
      exact this
    | false =>
      rw [if_neg Bool.false_ne_true, if_neg Bool.false_ne_true, List.append_nil]
      refine ⟨F3, us, g.trans g3, g3.new D fD ?_, hD, g3.kp D _ jD, r.mono g3.ex⟩
      rw [jD]
      intro z
      cases z
theorem take_snoc {β : Type} {l : List β} {i : Nat} {z : β} (h : l[i]? = some z) : l.take (i + 1) = l.take i ++ [z] := by
  rw [List.take_add_one, h]
  rfl
/-- [elt for x in iter if ..], iter a list or a tuple of data enc z, z of zs -/
theorem o_lc {ifs : List Expr} (o : Ok M X N sc k) (own : List (Str × Nat)) (j : Nat) (enc : α → PyData) (zs : List α) (p : α → Bool) (g : α → PyData) (le : Same F H)
    (hi : XD M X iter σ F H (.list (zs.map enc)) ∨ XD M X iter σ F H (.tuple (zs.map enc))) (ok : blkC N sc scope own = true) (hj : j ∈ own.map (·.2)) (hx : N[j]? = some x) (hxl : (relS scope sc).names.lookup x = some .local)
    (hif : ifs = [] ∨ ∃ c, ifs = [c]) (hz : zs.length < 100000)
    (ht : ∀ z, z ∈ zs → ∀ v F1 H1, Grow F H F1 H1 → Dn M.K F1 v (enc z) → Blk M X N sc scope k ifs elt ((wipe σ (own.map (·.2))).set j (some v)) F1 H1 (p z) (g z)) (hp : ifs = [] → ∀ z, p z = true)
    (hs : ∀ x, foldedSetIterable iter X.env x = pure x := by intro _; rfl) : XO M X (.ListComp elt [⟨.Name x tp, iter, ifs, 0⟩] scope pos) σ F H (kept zs p g) := by
  refine ⟨fun F1 H1 gr Q q => ?_⟩
  obtain ⟨tt, htt⟩ : ∃ tt : TT, (ifs = [] ∧ tt = tYes) ∨ ∃ c, ifs = [c] ∧ tt = BT X scope c := by
    rcases hif with h | ⟨c, h⟩
    · exact ⟨_, .inl ⟨h, rfl⟩⟩
    · exact ⟨_, .inr ⟨c, h, rfl⟩⟩
  have okB : BlkOk X.N X.env.scope scope own := by
    rw [o.eN, o.eS]
    exact blkOk_by ok
  have hN : X.N.Nodup := by
    rw [o.eN]
    exact o.nd
  have hT : ∀ (s : Shared) (H : Hp) (C : Addr) (cl : List (Str × Addr)) (fp : List Addr), PTs (X.blk s H scope (compEnvC scope cl C X.env) fp) ifs tt := by
    intro s0 H0 C cl fp
    rcases htt with ⟨rfl, rfl⟩ | ⟨c, rfl, rfl⟩
    · exact pts_nil
    · exact pts_one (BT.pt s0 H0 C cl fp)
  have hG : ∀ (s : Shared) (H : Hp) (C : Addr) (cl : List (Str × Addr)) (fp : List Addr), PG (X.blk s H scope (compEnvC scope cl C X.env) fp) (.Name x tp) (gName j) := by
    intro s0 H0 C cl fp
    have e : (compEnvC scope cl C X.env).scope.names.lookup x = some .local := by
      have : (compEnvC scope cl C X.env).scope = relS scope sc := by
        rw [← o.eS]
        rfl
      rw [this]
      exact hxl
    exact pg_name hN (by show X.N[j]? = some x; rw [o.eN]; exact hx) (.inl e) (.inr e)
  rcases hi with hi | hi
  · refine WE.of (pe_lc o.calm hN (pi_list WE.pe) okB hG hT BE.pe hs) ?_
    refine hi.run F1 H1 gr _ fun y F2 H2 g2 r2 => ?_
    cases r2 with
    | lst ha s =>
      rename_i a xs
      have len := s.len
      rw [List.length_map] at len
      refine ⟨a, rfl, ⟨xs, SqL.of (g2.le _ _ ha)⟩, fun D hD => ?_⟩
      refine lc_list (xs := xs) (fun i H' => LcP M.K F2 H2 D (kept (zs.take i) p g) H') ?_ (fun i H' _ P => ?_) (fun i y H' hi' P => ?_) (fun H' P => ?_)
      · exact ⟨F2, [], Grow.own g2.le hD, g2.le.free hD, hD, upd_same, .nil⟩
      · obtain ⟨F', us, g', _⟩ := P
        exact SqL.of (g'.base _ _ ha)
      · obtain ⟨d, e1, r1⟩ := s.getV hi'
        rw [List.getElem?_map] at e1
        cases e2 : zs[i]? with
        | none =>
          rw [e2] at e1
          cases e1
        | some z =>
          rw [e2] at e1
          have e3 : enc z = d := Option.some.inj e1
          subst e3
          have hmem : z ∈ zs := List.mem_of_getElem? e2
          have T := lc_turn (F := F2) (H := H2) (σ := σ) (b := p z) (e := g z) (v := y) (H' := H') (D := D) (ix := i) o htt hj P (Nat.lt_of_le_of_lt (kept_len _ _ _) (Nat.lt_of_le_of_lt (by rw [List.length_take]; exact Nat.min_le_right _ _) hz)) (fun _ => r1)
            (fun F3 H3 g3 => ht z hmem y F3 H3 ((gr.trans g2).trans g3) (r1.mono g3.ex)) (fun h => hp h z) g2.le
          rw [← kept_snoc, ← take_snoc e2] at T
          exact T
      · rw [len, List.take_length] at P
        obtain ⟨F', us, g', h1, h2, h3, r⟩ := P
        exact q D us F' H' (g2.trans g') h1 (g2.kp.free h2) h3 r
  · refine WE.of (pe_lc o.calm hN (pi_tup WE.pe) okB hG hT BE.pe hs) ?_
    refine hi.run F1 H1 gr _ fun y F2 H2 g2 r2 => ?_
    cases r2 with
    | tup ha s =>
      rename_i a xs
      have len := s.len
      rw [List.length_map] at len
      refine ⟨a, rfl, ⟨xs, by rw [o.eK]; exact sqt_mono g2.le ha⟩, fun D hD => ?_⟩
      refine lc_tup (xs := xs) (fun i H' => LcP M.K F2 H2 D (kept (zs.take i) p g) H') ?_ (fun i H' _ P => ?_) (fun i y H' hi' P => ?_) (fun H' P => ?_)
      · exact ⟨F2, [], Grow.own g2.le hD, g2.le.free hD, hD, upd_same, .nil⟩
      · obtain ⟨F', us, g', _⟩ := P
        rw [o.eK]
        exact sqt_mono g'.base ha
      · obtain ⟨d, e1, r1⟩ := s.getV hi'
        rw [List.getElem?_map] at e1
        cases e2 : zs[i]? with
        | none =>
          rw [e2] at e1
          cases e1
        | some z =>
          rw [e2] at e1
          have e3 : enc z = d := Option.some.inj e1
          subst e3
          have hmem : z ∈ zs := List.mem_of_getElem? e2
          have T := lc_turn (F := F2) (H := H2) (σ := σ) (b := p z) (e := g z) (v := y) (H' := H') (D := D) (ix := i) o htt hj P (Nat.lt_of_le_of_lt (kept_len _ _ _) (Nat.lt_of_le_of_lt (by rw [List.length_take]; exact Nat.min_le_right _ _) hz)) (fun _ => r1)
            (fun F3 H3 g3 => ht z hmem y F3 H3 ((gr.trans g2).trans g3) (r1.mono g3.ex)) (fun h => hp h z) g2.le
          rw [← kept_snoc, ← take_snoc e2] at T
          exact T
      · rw [len, List.take_length] at P
        obtain ⟨F', us, g', h1, h2, h3, r⟩ := P
        exact q D us F' H' (g2.trans g') h1 (g2.kp.free h2) h3 r
/-- [elt for x in range(..) if ..]: PI of the range, walked from lo, n turns -/
theorem o_lcR {ifs : List Expr} (o : Ok M X N sc k) (own : List (Str × Nat)) (j : Nat) (lo : Int) (n : Nat) (p : Nat → Bool) (g : Nat → PyData) {wi : TI} (hpi : PI X (.Name x tp) iter wi)
    (hi : ∀ F1 H1, Grow F H F1 H1 → ∀ R : It → Hp → Prop, (∀ F2 H2, Grow F1 H1 F2 H2 → R (Itr lo n) H2) → wi σ H1 R) (ok : blkC N sc scope own = true) (hj : j ∈ own.map (·.2)) (hx : N[j]? = some x) (hxl : (relS scope sc).names.lookup x = some .local)
    (hif : ifs = [] ∨ ∃ c, ifs = [c]) (hz : n < 100000)
    (ht : ∀ i : Nat, i < n → ∀ F1 H1, Grow F H F1 H1 → Blk M X N sc scope k ifs elt ((wipe σ (own.map (·.2))).set j (some (.int (lo + (i : Int))))) F1 H1 (p i) (g i)) (hp : ifs = [] → ∀ z, p z = true)
    (hs : ∀ x, foldedSetIterable iter X.env x = pure x := by intro _; rfl) : XO M X (.ListComp elt [⟨.Name x tp, iter, ifs, 0⟩] scope pos) σ F H (kept (List.range n) p g) := by
  refine ⟨fun F1 H1 gr Q q => ?_⟩
  obtain ⟨tt, htt⟩ : ∃ tt : TT, (ifs = [] ∧ tt = tYes) ∨ ∃ c, ifs = [c] ∧ tt = BT X scope c := by
    rcases hif with h | ⟨c, h⟩
    · exact ⟨_, .inl ⟨h, rfl⟩⟩
    · exact ⟨_, .inr ⟨c, h, rfl⟩⟩
  have okB : BlkOk X.N X.env.scope scope own := by
    rw [o.eN, o.eS]
    exact blkOk_by ok
  have hN : X.N.Nodup := by
    rw [o.eN]
    exact o.nd
  have hT : ∀ (s : Shared) (H : Hp) (C : Addr) (cl : List (Str × Addr)) (fp : List Addr), PTs (X.blk s H scope (compEnvC scope cl C X.env) fp) ifs tt := by
    intro s0 H0 C cl fp
    rcases htt with ⟨rfl, rfl⟩ | ⟨c, rfl, rfl⟩
    · exact pts_nil
    · exact pts_one (BT.pt s0 H0 C cl fp)
  have hG : ∀ (s : Shared) (H : Hp) (C : Addr) (cl : List (Str × Addr)) (fp : List Addr), PG (X.blk s H scope (compEnvC scope cl C X.env) fp) (.Name x tp) (gName j) := by
    intro s0 H0 C cl fp
    have e : (compEnvC scope cl C X.env).scope.names.lookup x = some .local := by
      have : (compEnvC scope cl C X.env).scope = relS scope sc := by
        rw [← o.eS]
        rfl
      rw [this]
      exact hxl
    exact pg_name hN (by show X.N[j]? = some x; rw [o.eN]; exact hx) (.inl e) (.inr e)
  refine WE.of (pe_lc o.calm hN hpi okB hG hT BE.pe hs) ?_
  refine hi F1 H1 gr _ fun F2 H2 g2 D hD => ?_
  refine lc_range (lo := lo) (n := n) (fun i H' => LcP M.K F2 H2 D (kept (List.range i) p g) H') ?_ (fun i H' hi' P => ?_) (fun H' P => ?_)
  · exact ⟨F2, [], Grow.own g2.le hD, g2.le.free hD, hD, upd_same, .nil⟩
  · have T := lc_turn (F := F2) (H := H2) (σ := σ) (b := p i) (e := g i) (v := .int (lo + i)) (H' := H') (D := D) (ix := i) (d := .int (lo + i)) o htt hj P (Nat.lt_of_le_of_lt (kept_len _ _ _) (by rw [List.length_range]; omega)) (fun _ => .int _)
      (fun F3 H3 g3 => ht i hi' F3 H3 ((gr.trans g2).trans g3)) (fun h => hp h i) g2.le
    rw [← kept_snoc, ← List.range_succ] at T
    exact T
  · obtain ⟨F', us, g', h1, h2, h3, r⟩ := P
    exact q D us F' H' (g2.trans g') h1 (g2.kp.free h2) h3 r
end
end Lay

/-! Lay3: a def's promise by its body; statements over states; loops; errors. -/
namespace Lay
open PySem L2

structure Stt (K : PySem.W.Frag) (F H : Hp) (σ : L2.St) (env : List (Option PyData)) : Prop where
  le : Same F H
  sl : Sl K F σ env
  ln : env.length = σ.length
section
variable {K : PySem.W.Frag} {F H G J : Hp} {σ : L2.St} {env : List (Option PyData)} {d : PyData} {v : V} {i : Nat}
theorem Stt.grow (S : Stt K F H σ env) (g : Grow F H G J) : Stt K G J σ env := ⟨g.le, S.sl.mono g.ex, S.ln⟩
theorem Stt.set (S : Stt K F H σ env) (r : Dn K F v d) : Stt K F H (σ.set i (some v)) (env.set i (some d)) := ⟨S.le, S.sl.set (Nat.le_of_eq S.ln) r, by rw [List.length_set, List.length_set]; exact S.ln⟩
theorem Stt.lose (S : Stt K F H σ env) {o : Option V} : Stt K F H (σ.set i o) (env.set i none) := ⟨S.le, S.sl.lose, by rw [List.length_set, List.length_set]; exact S.ln⟩
theorem Stt.wipe (S : Stt K F H σ env) (vs : List Nat) : Stt K F H (L2.wipe σ vs) (wipeE env vs) := ⟨S.le, S.sl.wipe vs, by rw [wipeE_len, L2.wipe_length]; exact S.ln⟩
/-- a block's slots -/
theorem Stt.blk (S : Stt K F H σ env) {vs : List Nat} {j : Nat} (g : Grow F H G J) (r : Dn K G v d) : Stt K G J ((L2.wipe σ vs).set j (some v)) ((wipeE env vs).set j (some d)) := ((S.wipe vs).grow g).set r
def envOf (ds : List PyData) (n : Nat) : List (Option PyData) := ds.map some ++ List.replicate (n - ds.length) none
theorem stt_start {vs : List V} {ds : List PyData} {N : List Str} (le : Same F H) (r : Dns K F vs ds) (hn : ds.length ≤ N.length) : Stt K F H (L2.start N vs) (envOf ds N.length) :=
  ⟨le, (sl_start r N).pad _, by
    unfold envOf L2.start
    rw [List.length_append, List.length_append, List.length_map, List.length_map, List.length_replicate, List.length_replicate, r.len]⟩
end

section
variable {M : Md} {x qual : Str} {st : Stmt} {f : Addr} {fd : FuncData} {N ps : List Str} {k : Nat} {R : List PyData → Out → Prop}
/-- a def that lets no error out -/
theorem ok_of (F : Fun M.K x qual st f fd) (S : FnScope N ps (defScope st)) (len : ∀ ds r, R ds r → ds.length = ps.length) (hN : ps.length ≤ N.length)
    (body : ∀ X, Ok M X N (defScope st) k → Fs X → ∀ ds r, R ds r → ∀ F H σ Q E, Stt M.K F H σ (envOf ds N.length) → Done M.K F H Q E r → WS X (defBody st) { nx := fun _ H' => Q .non H', rt := Q } σ H) : FnOk M.P M.w M.K M.mg M.base CX0 (k + 1) f fd ps (spG M.K R) := by
  refine F.ok S (fun vs H Q E h => ?_) fun cdv A outer s H vs Q E hr h => ?_
  · obtain ⟨F', ds, r, _, h2, h3, _⟩ := h
    rw [h2.len]
    exact len ds r h3
  · obtain ⟨F', ds, r, h1, h2, h3, h4⟩ := h
    refine ⟨_, WS.ps, ?_⟩
    refine body _ ⟨⟨rfl, rfl, rfl, rfl, rfl, rfl, rfl, S.nd⟩, rfl, hr, PassesOwn.never⟩ ⟨fun _ => rfl, rfl, rfl⟩ ds r h3 F' H _ Q E (stt_start h1 h2 ?_) h4
    rw [len ds r h3]
    exact hN
theorem fc_of (F : Fun M.K x qual st f fd) (gm : M.mg x = some (.ref f)) (bd : Binds M.K fd ps []) (S : FnScope N ps (defScope st)) (len : ∀ ds r, R ds r → ds.length = ps.length) (hN : ps.length ≤ N.length)
    (body : ∀ X, Ok M X N (defScope st) k → Fs X → ∀ ds r, R ds r → ∀ F H σ Q E, Stt M.K F H σ (envOf ds N.length) → Done M.K F H Q E r → WS X (defBody st) { nx := fun _ H' => Q .non H', rt := Q } σ H) : Fc M CX0 x (k + 1) (spG M.K R) :=
  ⟨f, fd, ps, gm, F.kp, bd, ok_of F S len hN body⟩
/-- a def that may raise: what it raises is wished for by E -/
theorem fc_ofX (F : Fun M.K x qual st f fd) (gm : M.mg x = some (.ref f)) (bd : Binds M.K fd ps []) (S : FnScope N ps (defScope st)) (len : ∀ ds r, R ds r → ds.length = ps.length) (hN : ps.length ≤ N.length)
    (body : ∀ X E, Ok M X N (defScope st) k → Fs X → Takes X (fun cls d _ H => E cls d H) → ∀ ds r, R ds r → ∀ F H σ Q, Stt M.K F H σ (envOf ds N.length) → Done M.K F H Q E r → WS X (defBody st) { nx := fun _ H' => Q .non H', rt := Q } σ H) : Fc M (L2.CX M.P M.w) x (k + 1) (spG M.K R) := by
  refine ⟨f, fd, ps, gm, F.kp, bd, F.okX S (fun vs H Q E h => ?_) fun cdv A outer s H vs Q E hr h => ?_⟩
  · obtain ⟨F', ds, r, _, h2, h3, _⟩ := h
    rw [h2.len]
    exact len ds r h3
  · obtain ⟨F', ds, r, h1, h2, h3, h4⟩ := h
    refine ⟨_, WS.ps, ?_⟩
    refine body _ E ⟨⟨rfl, rfl, rfl, rfl, rfl, rfl, rfl, S.nd⟩, rfl, hr, passes_of rfl⟩ ⟨fun _ => rfl, rfl, rfl⟩ (takes_of rfl rfl rfl rfl) ds r h3 F' H _ Q (stt_start h1 h2 ?_) h4
    rw [len ds r h3]
    exact hN
end

section
variable {M : Md} {X : Cx} {N : List Str} {sc : Scope} {k j : Nat} {σ : L2.St} {env : List (Option PyData)} {F H : Hp} {d : PyData} {ds : List PyData} {e tg iter : Expr} {es : List Expr} {st : Stmt} {rest body orelse : List Stmt} {D : Ends} {pos p pos' : Pos} {x : Str} {Q : VK} {E : XK}
/-! ### the rules over states -/
def nameB (sc : Scope) (x : Str) : Bool := visB sc x && !(x == ("__debug__" : Str)) && !(x == ("__classdict__" : Str))
inductive At {α : Type} : List α → Nat → α → Prop
  | here {x : α} {l : List α} : At (x :: l) 0 x
  | there {x y : α} {l : List α} {i : Nat} : At l i x → At (y :: l) (i + 1) x
theorem At.get {α : Type} {l : List α} {i : Nat} {x : α} (h : At l i x) : l[i]? = some x := by
  induction h with
  | here => rfl
  | there _ ih => exact ih
theorem v_ (o : Ok M X N sc k) (S : Stt M.K F H σ env) {i : Nat} (hN : At N i x) (he : env[i]? = some (some d)) (hs : nameB sc x = true) : XD M X (.Name x pos) σ F H d := by
  unfold nameB at hs
  simp only [Bool.and_eq_true, Bool.not_eq_true'] at hs
  exact x_var o.toOk0 S.sl i he hN.get hs.1.1 hs.1.2 hs.2
theorem t_set (o : Ok M X N sc k) (fs : Fs X) (S : Stt M.K F H σ env) {i : Nat} (hN : At N i x) (h : XD M X e σ F H d) (kk : ∀ v F' H', Grow F H F' H' → Stt M.K F' H' (σ.set i (some v)) (env.set i (some d)) → D.nx (σ.set i (some v)) H')
    (hl : locB sc x = true := by decide +kernel) (hs : swapsWith e (some (.Name x p)) pos.line X.env = pure false := by rfl) : W1 X (.Assign [.Name x p] e pos) D σ H :=
  s_set o.toOk0 fs _ h S.le (fun v F' H' g r => kk v F' H' g ((S.grow g).set r)) hN.get hl hs
theorem t_setO (o : Ok M X N sc k) (fs : Fs X) (S : Stt M.K F H σ env) {i : Nat} (hN : At N i x) (h : XO M X e σ F H ds)
    (kk : ∀ l vs F' H', Grow F H F' H' → F' l = none → H l = none → H' l = some (.lst vs) → Dns M.K F' vs ds → Stt M.K F' H' (σ.set i (some (.ref l))) (env.set i none) → D.nx (σ.set i (some (.ref l))) H')
    (hl : locB sc x = true := by decide +kernel) (hs : swapsWith e (some (.Name x p)) pos.line X.env = pure false := by rfl) : W1 X (.Assign [.Name x p] e pos) D σ H :=
  s_setO o.toOk0 fs _ h S.le (fun l vs F' H' g h1 h2 h3 r => kk l vs F' H' g h1 h2 h3 r ((S.grow g).lose)) hN.get hl hs
theorem t_ret (S : Stt M.K F H σ env) (h : XD M X e σ F H d) (kk : ∀ v F' H', Grow F H F' H' → Dn M.K F' v d → D.rt v H') : W1 X (.Return (some e) pos) D σ H := s_ret h S.le kk
theorem t_done (S : Stt M.K F H σ env) (h : XD M X e σ F H d) (kk : Done M.K F H D.rt E (.val d)) : W1 X (.Return (some e) pos) D σ H := s_ret h S.le kk
theorem t_doneO (S : Stt M.K F H σ env) (h : XO M X e σ F H ds) (kk : Done M.K F H D.rt E (.own ds)) : W1 X (.Return (some e) pos) D σ H := s_retO h S.le kk
theorem t_if {c : Bool} (S : Stt M.K F H σ env) (h : XB M X e σ F H c) (ht : c = true → ∀ F' H', Grow F H F' H' → Stt M.K F' H' σ env → WS X body D σ H') (hf : c = false → ∀ F' H', Grow F H F' H' → Stt M.K F' H' σ env → WS X orelse D σ H') : W1 X (.If e body orelse pos) D σ H :=
  s_if h S.le (fun hc F' H' g => ht hc F' H' g (S.grow g)) (fun hc F' H' g => hf hc F' H' g (S.grow g))
/-- an if without else that ends the def on its way -/
theorem s_expr_val (h : XD M X e σ F H d) (le : Same F H) (kk : ∀ F' H', Grow F H F' H' → D.nx σ H') (hs : swapsWith e none pos.line X.env = pure false := by rfl) : W1 X (.Expr e pos) D σ H :=
  s_expr (h.run F H (Grow.refl le) _ fun v F' H' g _ => kk F' H' g) hs

/-! ### errors -/
theorem t_raise {pos2 : Pos} {cl m : Str} {C : Addr} {cn : Nat} {bmB : List Value} {B newId initId : String} (o : Ok M X N sc k) (tk : Takes X (fun cls d _ H => E cls d H)) (Fb : PySem.ExcBaseFacts B newId initId bmB) (q : PySem.W.excIn M.K C bmB newId = true)
    (gC : M.mg cl = some (.ref C)) (kC : PySem.W.keepIn M.K (.ref C) = true) (bC : PySem.W.subIn M.K (.ref C) (.type "BaseException") = some true) (tC : PySem.W.typeIn M.K (.ref C) = some (.type "type")) (h : E (.ref C) none H)
    (hg : sc.names.lookup cl = some .globalImplicit := by decide +kernel) (hdb : (cl == ("__debug__" : Str)) = false := by decide +kernel) : W1 X (.Raise (some (.Call (.Name cl p) [.Constant (.str m) cn pos'] [] pos)) none pos2) D σ H :=
  W1.of (ps_raise o.calm tk (pmk_own Fb (by rw [o.eK]; exact q) (by rw [o.eG]; exact gC) (by rw [o.eK]; exact kC) (raises_own (by rw [o.eK]; exact bC) (by rw [o.eK]; exact tC)) (gl_of o.toOk0 hg) hdb)) h
end
end Lay

/-! Lay4: slices, texts, built-ins of lists, isinstance; loops. -/
namespace Lay
open PySem L2

section
variable {M : Md} {X : Cx} {N : List Str} {sc : Scope} {k j : Nat} {σ : L2.St} {env : List (Option PyData)} {F H : Hp} {d : PyData} {ds es' : List PyData} {e a b : Expr} {es : List Expr} {pos p p2 apos : Pos} {x : Str} {lo hi : Option Expr} {vlo vhi : Option Int}
/-! ### slices -/
/-- a slice's part -/
inductive XP (M : Md) (X : Cx) (σ : L2.St) (F H : Hp) : Option Expr → Option Int → Prop
  | no : XP M X σ F H none none
  | yes {e : Expr} {i : Int} (h : XD M X e σ F H (.int i)) : XP M X σ F H (some e) (some i)
/-- both parts, run one behind the other -/
theorem parts_run (hl : XP M X σ F H lo vlo) (hh : XP M X σ F H hi vhi) : ∃ tl th : TO, PO X lo tl ∧ PO X hi th ∧ ∀ F1 H1, Grow F H F1 H1 → ∀ R : Option Int → Option Int → Hp → Prop, (∀ F' H', Grow F1 H1 F' H' → R vlo vhi H') → tl σ H1 fun l H2 => th σ H2 fun u H3 => R l u H3 := by
  cases hl with
  | no =>
    cases hh with
    | no => exact ⟨_, _, po_none, po_none, fun F1 H1 g R q => q F1 H1 (Grow.refl g.le)⟩
    | yes h =>
      refine ⟨_, _, po_none, po_some WE.pe, fun F1 H1 g R q => ?_⟩
      refine h.run F1 H1 g _ fun v F2 H2 g2 r => ?_
      cases r
      exact ⟨_, rfl, q F2 H2 g2⟩
  | yes h1 =>
    cases hh with
    | no =>
      refine ⟨_, _, po_some WE.pe, po_none, fun F1 H1 g R q => ?_⟩
      refine h1.run F1 H1 g _ fun v F2 H2 g2 r => ?_
      cases r
      exact ⟨_, rfl, q F2 H2 g2⟩
    | yes h =>
      refine ⟨_, _, po_some WE.pe, po_some WE.pe, fun F1 H1 g R q => ?_⟩
      refine h1.run F1 H1 g _ fun v F2 H2 g2 r => ?_
      cases r
      refine ⟨_, rfl, ?_⟩
      refine h.run F2 H2 (g.trans g2) _ fun v F3 H3 g3 r3 => ?_
      cases r3
      exact ⟨_, rfl, q F3 H3 (g2.trans g3)⟩
/-- the items of a list's slice -/
def cutD (ds : List PyData) (lo hi : Option Int) : List PyData := (ds.drop (HT.sIx ds.length 0 lo)).take (HT.sIx ds.length ds.length hi - HT.sIx ds.length 0 lo)
theorem cut_dns {K : PySem.W.Frag} {vs : List V} (r : Dns K F vs ds) : Dns K F (cutV vs vlo vhi) (cutD ds vlo vhi) := by
  unfold cutV cutD
  rw [r.len]
  exact (r.drop _).take _
theorem o_slL (o : Ok0 M X N sc) (ha : XD M X a σ F H (.list ds)) (hl : XP M X σ F H lo vlo) (hh : XP M X σ F H hi vhi) : XO M X (.Subscript a (.Slice lo hi none p2) pos) σ F H (cutD ds vlo vhi) := by
  obtain ⟨tl, th, pl, ph, run⟩ := parts_run hl hh
  refine ⟨fun F1 H1 g Q q => ?_⟩
  refine WE.of (pe_slice sl_list WE.pe pl ph) ?_
  refine ha.run F1 H1 g _ fun y F2 H2 g2 r2 => ?_
  refine run F2 H2 (g.trans g2) _ fun F3 H3 g3 => ?_
  cases r2 with
  | lst h s =>
    refine ⟨_, _, rfl, SqL.of (g3.base _ _ h), fun l hl => ?_⟩
    exact q l _ F3 _ ((g2.trans g3).trans (Grow.own g3.le hl)) (g3.le.free hl) ((g2.trans g3).kp.free hl) upd_same (cut_dns (s.mono g3.ex))
theorem x_slT (o : Ok0 M X N sc) (ha : XD M X a σ F H (.tuple ds)) (hl : XP M X σ F H lo vlo) (hh : XP M X σ F H hi vhi) (hw : ¬ (HT.sIx ds.length 0 vlo = 0 ∧ HT.sIx ds.length ds.length vhi = ds.length)) : XD M X (.Subscript a (.Slice lo hi none p2) pos) σ F H (.tuple (cutD ds vlo vhi)) := by
  obtain ⟨tl, th, pl, ph, run⟩ := parts_run hl hh
  refine ⟨fun F1 H1 g Q q => ?_⟩
  refine WE.of (pe_slice sl_tup WE.pe pl ph) ?_
  refine ha.run F1 H1 g _ fun y F2 H2 g2 r2 => ?_
  refine run F2 H2 (g.trans g2) _ fun F3 H3 g3 => ?_
  cases r2 with
  | tup h s =>
    rename_i c xs
    refine ⟨_, _, rfl, by rw [o.eK]; exact sqt_mono g3.base h, by rw [s.len]; exact hw, fun l hl => ?_⟩
    have gA := Grow.add (o := .tup (cutV xs vlo vhi)) g3.le hl
    exact q _ _ _ ((g2.trans g3).trans gA) (.tup (SqT.of upd_same) (cut_dns (s.mono (g3.ex.trans gA.ex))))
theorem x_slS {z : Str} (ha : XD M X a σ F H (.str z)) (hl : XP M X σ F H lo vlo) (hh : XP M X σ F H hi vhi) (hz : z.length ≤ 100000) : XD M X (.Subscript a (.Slice lo hi none p2) pos) σ F H (.str (cutS z vlo vhi)) := by
  obtain ⟨tl, th, pl, ph, run⟩ := parts_run hl hh
  refine ⟨fun F1 H1 g Q q => ?_⟩
  refine WE.of (pe_slice sl_str WE.pe pl ph) ?_
  refine ha.run F1 H1 g _ fun y F2 H2 g2 r2 => ?_
  refine run F2 H2 (g.trans g2) _ fun F3 H3 g3 => ?_
  cases r2
  exact ⟨_, rfl, Nat.le_trans hz (by decide), q _ F3 H3 (g2.trans g3) (.str _)⟩
/-- a tuple and a tuple, neither empty -/
theorem x_addt {ds1 ds2 : List PyData} (o : Ok0 M X N sc) (ha : XD M X a σ F H (.tuple ds1)) (hb : XD M X b σ F H (.tuple ds2)) (h : ds1.length + ds2.length ≤ sizeLine) (h1 : ds1 ≠ []) : XD M X (.BinOp a .Add b pos) σ F H (.tuple (ds1 ++ ds2)) := by
  refine ⟨fun F1 H1 g Q q => ?_⟩
  refine WE.of (pe_op op_catT WE.pe WE.pe) ?_
  refine ha.run F1 H1 g _ fun x F2 H2 g2 r2 => ?_
  refine hb.run F2 H2 (g.trans g2) _ fun y F3 H3 g3 r3 => ?_
  have r2' := r2.mono g3.ex
  cases r2' with
  | tup t1 s1 =>
    rename_i c1 xs1
    cases r3 with
    | tup t2 s2 =>
      rename_i c2 xs2
      refine ⟨_, _, _, _, rfl, rfl, by rw [o.eK]; exact sqt_mono g3.le t1, by rw [o.eK]; exact sqt_mono g3.le t2, ?_, by rw [s1.len, s2.len]; exact h, fun z => ?_, fun _ l hl => ?_⟩
      · intro z
        have := s1.len
        rw [z] at this
        exact h1 (List.eq_nil_of_length_eq_zero this.symm)
      · have e2 : ds2 = [] := by
          have := s2.len
          rw [z] at this
          exact List.eq_nil_of_length_eq_zero this.symm
        rw [e2, List.append_nil] at q
        exact q _ F3 H3 (g2.trans g3) (.tup t1 s1)
      · have gA := Grow.add (o := .tup (xs1 ++ xs2)) g3.le hl
        exact q _ _ _ ((g2.trans g3).trans gA) (.tup (SqT.of upd_same) ((s1.app s2).mono gA.ex))
/-! ### texts -/
theorem x_join {y : Str} {parts : List Str} (o : Ok0 M X N sc) (ha : XD M X a σ F H (.str y)) (hb : XD M X e σ F H (.list (parts.map PyData.str))) (hz : (parts.map (·.length)).sum + parts.length * y.length ≤ 16777216)
    (hs : starEach [e] X.env = [(false, eval e X.env)] := by rfl) (hbase : attributeBase a "join" X.env (eval a X.env) = eval a X.env := by rfl) (hline : (apos.endLine == pos.line) = true := by rfl) : XD M X (.Call (.Attribute a "join" apos) [e] [] pos) σ F H (.str (Txt.join y parts)) := by
  refine ⟨fun F1 H1 g Q q => ?_⟩
  refine WE.of (pe_join WE.pe WE.pe hs hbase hline) ?_
  refine ha.run F1 H1 g _ fun v F2 H2 g2 r2 => ?_
  cases r2
  refine ⟨⟨_, rfl⟩, ?_⟩
  refine hb.run F2 H2 (g.trans g2) _ fun w F3 H3 g3 r3 => ?_
  cases r3 with
  | lst h s =>
    have ev := strs_of s
    subst ev
    exact ⟨_, _, parts, rfl, rfl, .inl (SqL.of (g3.le _ _ h)), hz, q _ F3 H3 (g2.trans g3) (.str _)⟩
theorem x_count {y z : Str} (ha : XD M X a σ F H (.str y)) (hb : XD M X e σ F H (.str z))
    (hs : starEach [e] X.env = [(false, eval e X.env)] := by rfl) (hbase : attributeBase a "count" X.env (eval a X.env) = eval a X.env := by rfl) (hline : (apos.endLine == pos.line) = true := by rfl) : XD M X (.Call (.Attribute a "count" apos) [e] [] pos) σ F H (.int (Txt.count y z)) := by
  refine ⟨fun F1 H1 g Q q => ?_⟩
  refine WE.of (pe_m1 PySem.F.slot_str_count PySem.F.type_str_count mt_count WE.pe WE.pe hs hbase hline) ?_
  refine ha.run F1 H1 g _ fun v F2 H2 g2 r2 => ?_
  cases r2
  refine ⟨⟨_, rfl⟩, ?_⟩
  refine hb.run F2 H2 (g.trans g2) _ fun w F3 H3 g3 r3 => ?_
  cases r3
  exact ⟨_, _, rfl, rfl, q _ F3 H3 (g2.trans g3) (.int _)⟩
theorem b_inS {c : Nat} {z : Str} (ha : XD M X a σ F H (.str ⟨#[c]⟩)) (hb : XD M X b σ F H (.str z)) (hm : behindInMarks .In b = false := by rfl) : XB M X (.Compare a [.In] [b] pos) σ F H (decide (c ∈ z.cps.toList)) :=
  b_cmp op_in_sign hm ha.xh hb.xh fun x y F1 H1 g rx ry Q q => by
    cases rx
    cases ry
    exact ⟨_, _, rfl, rfl, q F1 H1 (Grow.refl g.le)⟩
theorem b_ninS {c : Nat} {z : Str} (ha : XD M X a σ F H (.str ⟨#[c]⟩)) (hb : XD M X b σ F H (.str z)) (hm : behindInMarks .NotIn b = false := by rfl) : XB M X (.Compare a [.NotIn] [b] pos) σ F H (!decide (c ∈ z.cps.toList)) :=
  b_cmp op_notIn_sign hm ha.xh hb.xh fun x y F1 H1 g rx ry Q q => by
    cases rx
    cases ry
    exact ⟨_, _, rfl, rfl, q F1 H1 (Grow.refl g.le)⟩

/-! ### built-ins over lists -/
/-- sorted of whole numbers, any number of them -/
theorem sorted_the {ns a b : List Int} (pa : a.Perm ns) (sa : a.Pairwise (· ≤ ·)) (pb : b.Perm ns) (sb : b.Pairwise (· ≤ ·)) : a = b := List.Perm.eq_of_pairwise (le := (· ≤ ·)) (fun x y _ _ h1 h2 => Int.le_antisymm h1 h2) sa sb (pa.trans pb.symm)
theorem o_sortedI {ns ms : List Int} (o : Ok0 M X N sc) (hm : M.mg "sorted" = none) (ha : XD M X e σ F H (.list (ns.map PyData.int))) (hp : ms.Perm ns) (hs' : ms.Pairwise (· ≤ ·)) (hg : sc.names.lookup ("sorted" : Str) = some .globalImplicit := by decide +kernel)
    (he : starEach (e :: []) X.env = (false, eval e X.env) :: starEach [] X.env := by rfl) (hpl : (backTo pos (starEach [] X.env)).any (·.1) = false := by rfl) : XO M X (.Call (.Name "sorted" p) [e] [] pos) σ F H (ms.map PyData.int) :=
  o_callB o cr_sortedI hm PyProof.Rows.boot_sorted (a_cons ha a_nil he) (fun vs F1 H1 g r Q q => by
    cases r with
    | cons h t =>
      cases t
      cases h with
      | lst hl s =>
        have ev := ints_of s
        subst ev
        refine ⟨_, ns, rfl, SqL.of (g.le _ _ hl), fun ns' l perm srt hl' => ?_⟩
        have e1 := sorted_the perm srt hp hs'
        subst e1
        exact q l _ F1 _ (Grow.own g.le hl') (g.le.free hl') hl' upd_same (dns_ints _)) hg (by decide +kernel) (by decide +kernel) he hpl
theorem x_sum {ns : List Int} (o : Ok M X N sc k) (hm : M.mg "sum" = none) (ha : XH M X e σ F H (.list (ns.map PyData.int))) (hg : sc.names.lookup ("sum" : Str) = some .globalImplicit := by decide +kernel)
    (he : starEach [e] X.env = (false, eval e X.env) :: starEach [] X.env := by rfl) (hpl : (backTo pos (starEach [] X.env)).any (·.1) = false := by rfl) : XD M X (.Call (.Name "sum" p) [e] [] pos) σ F H (.int ns.sum) :=
  x_callBh o.toOk0 (cr_sum o.calm) hm PyProof.Rows.boot_sum ha (fun v F1 H1 g r Q q => by
    cases r with
    | lst h s =>
      have ev := ints_of s
      subst ev
      exact ⟨_, ns, rfl, SqL.of h, q _ F1 H1 (Grow.refl g.le) (.int _)⟩) hg (by decide +kernel) (by decide +kernel) he hpl
theorem x_all {bs : List Bool} (o : Ok M X N sc k) (hm : M.mg "all" = none) (ha : XH M X e σ F H (.list (bs.map PyData.bool))) (hg : sc.names.lookup ("all" : Str) = some .globalImplicit := by decide +kernel)
    (he : starEach [e] X.env = (false, eval e X.env) :: starEach [] X.env := by rfl) (hpl : (backTo pos (starEach [] X.env)).any (·.1) = false := by rfl) : XD M X (.Call (.Name "all" p) [e] [] pos) σ F H (.bool (bs.all id)) :=
  x_callBh o.toOk0 (cr_all o.calm) hm PyProof.Rows.boot_all ha (fun v F1 H1 g r Q q => by
    cases r with
    | lst h s =>
      have ev := bls_of s
      subst ev
      exact ⟨_, bs, rfl, SqL.of h, q _ F1 H1 (Grow.refl g.le) (.bl _)⟩) hg (by decide +kernel) (by decide +kernel) he hpl
/-- int(flag) -/
theorem x_intB {c : Bool} (o : Ok0 M X N sc) (hm : M.mg "int" = none) (ha : XD M X e σ F H (.bool c)) (hg : sc.names.lookup ("int" : Str) = some .globalImplicit := by decide +kernel)
    (he : starEach (e :: []) X.env = (false, eval e X.env) :: starEach [] X.env := by rfl) (hpl : (backTo pos (starEach [] X.env)).any (·.1) = false := by rfl) : XD M X (.Call (.Name "int" p) [e] [] pos) σ F H (.int (if c then 1 else 0)) :=
  x_callTy o call_int1 hm PyProof.Rows.boot_int (a_cons ha a_nil he) (fun vs F1 H1 g r Q q => by
    cases r with
    | cons h t =>
      cases t
      cases h
      exact .inr ⟨c, rfl, q _ F1 H1 (Grow.refl g.le) (.int _)⟩) hg (by decide +kernel) (by decide +kernel) he hpl
/-- list(xs): a new list -/
theorem o_list (o : Ok0 M X N sc) (hm : M.mg "list" = none) (ha : XD M X e σ F H (.list ds)) (hg : sc.names.lookup ("list" : Str) = some .globalImplicit := by decide +kernel)
    (he : starEach (e :: []) X.env = (false, eval e X.env) :: starEach [] X.env := by rfl) (hpl : (backTo pos (starEach [] X.env)).any (·.1) = false := by rfl) : XO M X (.Call (.Name "list" p) [e] [] pos) σ F H ds := by
  refine ⟨fun F1 H1 g Q q => ?_⟩
  refine WE.of (pe_callTy call_list_of (gl_of o hg) (by rw [o.eG]; exact hm) PyProof.Rows.boot_list WA.pa (by decide +kernel) (by decide +kernel) he hpl) ?_
  refine (a_cons ha a_nil he).run F1 H1 g _ fun vs F2 H2 g2 r2 => ?_
  cases r2 with
  | cons h t =>
    cases t
    cases h with
    | lst hl s =>
      refine ⟨_, _, rfl, .inl (SqL.of (g2.le _ _ hl)), fun l hl' => ?_⟩
      exact q l _ F2 _ (g2.trans (Grow.own g2.le hl')) (g2.le.free hl') (g2.kp.free hl') upd_same s
/-- tuple(xs) of a list -/
theorem x_tuple (o : Ok0 M X N sc) (hm : M.mg "tuple" = none) (ha : XD M X e σ F H (.list ds)) (hg : sc.names.lookup ("tuple" : Str) = some .globalImplicit := by decide +kernel)
    (he : starEach (e :: []) X.env = (false, eval e X.env) :: starEach [] X.env := by rfl) (hpl : (backTo pos (starEach [] X.env)).any (·.1) = false := by rfl) : XD M X (.Call (.Name "tuple" p) [e] [] pos) σ F H (.tuple ds) :=
  x_callTy o call_tuple_of hm PyProof.Rows.boot_tuple (a_cons ha a_nil he) (fun vs F1 H1 g r Q q => by
    cases r with
    | cons h t =>
      cases t
      cases h with
      | lst hl s =>
        rename_i c xs
        refine ⟨_, _, rfl, .inl ⟨SqL.of (g.le _ _ hl), fun l hl' => ?_⟩⟩
        have gA := Grow.add (o := .tup xs) g.le hl'
        exact q _ _ _ gA (.tup (SqT.of upd_same) (s.mono gA.ex))) hg (by decide +kernel) (by decide +kernel) he hpl
/-! ### isinstance of data -/
def tyD : PyData → String
  | .none => "NoneType"
  | .bool _ => "bool"
  | .int _ => "int"
  | .str _ => "str"
  | .list _ => "list"
  | .tuple _ => "tuple"
  | .dict _ => "script"
def isScr : PyData → Bool
  | .dict _ => true
  | _ => false
theorem tyx_of {K : PySem.W.Frag} {v : V} (r : Dn K H v d) (hd : isScr d = false) : TyX K H v (.type (tyD d)) := by
  cases r with
  | non => exact .base .non
  | bl b => exact .base (.bl b)
  | int i => exact .base (.int i)
  | str x => exact .base (.str x)
  | lst h _ => exact .base (.lst h)
  | tup h _ =>
    rcases h with (h | ⟨o, h⟩) | ⟨o, its, n, h, hc, _⟩
    · exact .base (.tup h)
    · exact .fTuple h
    · exact .kTuple h hc
  | scr _ => cases hd
theorem x_isi {T : Str} {T' : String} {r : Bool} {pT : Pos} (o : Ok0 M X N sc) (hm : M.mg "isinstance" = none) (hT : M.mg T = none) (hb : bootBuiltins T = some (.type T')) (ha : XD M X e σ F H d) (hk : kitB (tyD d) T' = some r) (hd : isScr d = false)
    (hg : sc.names.lookup ("isinstance" : Str) = some .globalImplicit) (hgT : sc.names.lookup T = some .globalImplicit) (hn : T ≠ "__name__") (hdb : (T == ("__debug__" : Str)) = false)
    (he : starEach [e, .Name T pT] X.env = (false, eval e X.env) :: starEach [.Name T pT] X.env := by rfl) (he2 : starEach [.Name T pT] X.env = (false, eval (.Name T pT) X.env) :: starEach [] X.env := by rfl) (hpl : (backTo pos (starEach [.Name T pT] X.env)).any (·.1) = false := by rfl) :
    XD M X (.Call (.Name "isinstance" p) [e, .Name T pT] [] pos) σ F H (.bool r) := by
  refine ⟨fun F1 H1 g Q q => ?_⟩
  refine WE.of (pe_callB call_isi (gl_of o hg) (by rw [o.eG]; exact hm) PyProof.Rows.boot_isinstance (pa_cons WE.pe (pa_cons (pe_bltn (v := .ty T') (gl_of o hgT) (by rw [o.eG]; exact hT) hb rfl hn hdb) pa_nil he2) he) (by decide +kernel) (by decide +kernel) he hpl) ?_
  refine ha.run F1 H1 g _ fun v F2 H2 g2 r2 => ?_
  exact ⟨v, .ty T', .type (tyD d), .type T', r, rfl, .ty T', by rw [o.eK]; exact tyx_of (r2.mono g2.le) hd, kit_ty hk, q _ F2 H2 g2 (.bl r)⟩
end

/-! ### loops -/
section
variable {M : Md} {X : Cx} {N : List Str} {sc : Scope} {k j : Nat} {σ : L2.St} {env : List (Option PyData)} {F H : Hp} {iter e : Expr} {es : List Expr} {body : List Stmt} {D : Ends} {pos p tp : Pos} {x : Str} {α : Type}
/-- what a turn is to reach -/
def Nx (Pv : Hp → L2.St → Hp → Prop) (F : Hp) : L2.St → Hp → Prop := fun σ' H' => ∃ F', Same F F' ∧ Same F' H' ∧ Pv F' σ' H'
theorem t_for (o : Ok M X N sc k) (fs : Fs X) (S : Stt M.K F H σ env) (hN : At N j x) (enc : α → PyData) (zs : List α) (hi : XD M X iter σ F H (.list (zs.map enc)) ∨ XD M X iter σ F H (.tuple (zs.map enc))) (Pv : Nat → Hp → L2.St → Hp → Prop)
    (h0 : ∀ F' H', Grow F H F' H' → Stt M.K F' H' σ env → Pv 0 F' σ H')
    (hs : ∀ i z v F' σ' H', zs[i]? = some z → Same F F' → Same F' H' → Pv i F' σ' H' → Dn M.K F' v (enc z) → WS X body { D with nx := Nx (Pv (i + 1)) F', ct := Nx (Pv (i + 1)) F', bk := D.nx } (σ'.set j (some v)) H')
    (hd : ∀ F' σ' H', Same F F' → Same F' H' → Pv zs.length F' σ' H' → D.nx σ' H') (hl : locB sc x = true := by decide +kernel) (hf : ∀ x, foldedSetIterable iter X.env x = pure x := by intro _; rfl) : W1 X (.For (.Name x tp) iter body [] pos) D σ H := by
  have hx : L2.Loc X.env.scope x := by
    rw [o.eS]
    exact loc_of hl
  have hG : PG X (.Name x tp) (gName j) := pg_name (by rw [o.eN]; exact o.nd) (by rw [o.eN]; exact hN.get) hx (.inl (fs.fn x))
  have core : ∀ {xs : List V} {F2 H2 : Hp}, Grow F H F2 H2 → Dns M.K F2 xs (zs.map enc) → ∀ i v σ' H', xs[i]? = some v → (∃ F', Same F2 F' ∧ Same F' H' ∧ Pv i F' σ' H') →
      gName j v σ' H' fun σ2 H2' => WS X body { { D with nx := D.nx } with nx := fun σ'' H'' => ∃ F', Same F2 F' ∧ Same F' H'' ∧ Pv (i + 1) F' σ'' H'', ct := fun σ'' H'' => ∃ F', Same F2 F' ∧ Same F' H'' ∧ Pv (i + 1) F' σ'' H'', bk := D.nx } σ2 H2' := by
    intro xs F2 H2 g2 s i v σ' H' hv P
    obtain ⟨F', e1, e2, P⟩ := P
    obtain ⟨d, hd', r⟩ := s.getV hv
    rw [List.getElem?_map] at hd'
    cases hz : zs[i]? with
    | none =>
      rw [hz] at hd'
      cases hd'
    | some z =>
      rw [hz] at hd'
      have ez : enc z = d := Option.some.inj hd'
      subst ez
      have T := hs i z v F' σ' H' hz (g2.ex.trans e1) e2 P (r.mono e1)
      refine ⟨fun pins s I => thn (T.run pins s I) fun f s1 q => ?_⟩
      cases f with
      | next =>
        obtain ⟨σ3, H3, I3, F3, c1, c2, P3⟩ := q
        exact ⟨σ3, H3, I3, F3, e1.trans c1, c2, P3⟩
      | cont =>
        obtain ⟨σ3, H3, I3, F3, c1, c2, P3⟩ := q
        exact ⟨σ3, H3, I3, F3, e1.trans c1, c2, P3⟩
      | brk => exact q
      | ret u => exact q
  rcases hi with hi | hi
  · refine W1.of (ps_for o.pass o.calm (pi_list WE.pe) hG WS.ps hf) ?_
    refine hi.run F H (Grow.refl S.le) _ fun y F2 H2 g2 r2 => ?_
    cases r2 with
    | lst ha s =>
      rename_i a xs
      have len := s.len
      rw [List.length_map] at len
      refine ⟨a, rfl, ⟨xs, SqL.of (g2.le _ _ ha)⟩, ?_⟩
      refine for_list (xs := xs) (fun i σ' H' => ∃ F', Same F2 F' ∧ Same F' H' ∧ Pv i F' σ' H') ⟨F2, Same.refl _, g2.le, h0 F2 H2 g2 (S.grow g2)⟩ (fun i σ' H' _ P => ?_) (fun i v σ' H' hv P => core g2 s i v σ' H' hv P) (fun σ' H' P => ?_)
      · obtain ⟨F', e1, e2, _⟩ := P
        exact SqL.of (e2 _ _ (e1 _ _ ha))
      · rw [len] at P
        obtain ⟨F', e1, e2, P⟩ := P
        exact hd F' σ' H' (g2.ex.trans e1) e2 P
  · refine W1.of (ps_for o.pass o.calm (pi_tup WE.pe) hG WS.ps hf) ?_
    refine hi.run F H (Grow.refl S.le) _ fun y F2 H2 g2 r2 => ?_
    cases r2 with
    | tup ha s =>
      rename_i a xs
      have len := s.len
      rw [List.length_map] at len
      refine ⟨a, rfl, ⟨xs, by rw [o.eK]; exact sqt_mono g2.le ha⟩, ?_⟩
      refine for_tup (xs := xs) (fun i σ' H' => ∃ F', Same F2 F' ∧ Same F' H' ∧ Pv i F' σ' H') ⟨F2, Same.refl _, g2.le, h0 F2 H2 g2 (S.grow g2)⟩ (fun i σ' H' _ P => ?_) (fun i v σ' H' hv P => core g2 s i v σ' H' hv P) (fun σ' H' P => ?_)
      · obtain ⟨F', e1, e2, _⟩ := P
        rw [o.eK]
        exact sqt_mono (e1.trans e2) ha
      · rw [len] at P
        obtain ⟨F', e1, e2, P⟩ := P
        exact hd F' σ' H' (g2.ex.trans e1) e2 P
/-- for x in a text -/
theorem t_forS (o : Ok M X N sc k) (fs : Fs X) (S : Stt M.K F H σ env) (hN : At N j x) (z : Str) (hi : XD M X iter σ F H (.str z)) (Pv : Nat → Hp → L2.St → Hp → Prop)
    (h0 : ∀ F' H', Grow F H F' H' → Stt M.K F' H' σ env → Pv 0 F' σ H')
    (hs : ∀ i c F' σ' H', z.cps[i]? = some c → Same F F' → Same F' H' → Pv i F' σ' H' → WS X body { D with nx := Nx (Pv (i + 1)) F', ct := Nx (Pv (i + 1)) F', bk := D.nx } (σ'.set j (some (.str ⟨#[c]⟩))) H')
    (hd : ∀ F' σ' H', Same F F' → Same F' H' → Pv z.cps.size F' σ' H' → D.nx σ' H') (hl : locB sc x = true := by decide +kernel) (hf : ∀ x, foldedSetIterable iter X.env x = pure x := by intro _; rfl) : W1 X (.For (.Name x tp) iter body [] pos) D σ H := by
  have hx : L2.Loc X.env.scope x := by
    rw [o.eS]
    exact loc_of hl
  have hG : PG X (.Name x tp) (gName j) := pg_name (by rw [o.eN]; exact o.nd) (by rw [o.eN]; exact hN.get) hx (.inl (fs.fn x))
  refine W1.of (ps_for o.pass o.calm (pi_str WE.pe) hG WS.ps hf) ?_
  refine hi.run F H (Grow.refl S.le) _ fun y F2 H2 g2 r2 => ?_
  cases r2
  refine ⟨z, rfl, fun i m σ' H' => m = z.cps.size - i ∧ i ≤ z.cps.size ∧ ∃ F', Same F2 F' ∧ Same F' H' ∧ Pv i F' σ' H', ⟨_, rfl, Nat.zero_le _, F2, Same.refl _, g2.le, h0 F2 H2 g2 (S.grow g2)⟩, ?_⟩
  rintro i m σ' H' ⟨rfl, hi, F', e1, e2, P⟩
  by_cases hlt : i < z.cps.size
  · refine .inr ⟨hlt, Nx (Pv (i + 1)) F', fun σ'' H'' q => ?_, fun v H'' hv => ?_⟩
    · obtain ⟨F3, c1, c2, P3⟩ := q
      exact ⟨_, by omega, rfl, hlt, F3, e1.trans c1, c2, P3⟩
    · obtain ⟨rfl, c, hc, rfl⟩ := hv
      exact hs i c F' σ' _ hc (g2.ex.trans e1) e2 P
  · have ei : i = z.cps.size := Nat.le_antisymm hi (Nat.le_of_not_lt hlt)
    subst ei
    exact .inl ⟨Nat.le_refl _, hd F' σ' H' (g2.ex.trans e1) e2 P⟩
/-- what range(..) walks -/
structure XR (X : Cx) (tg iter : Expr) (σ : L2.St) (F H : Hp) (lo : Int) (n : Nat) : Prop where
  ex : ∃ wi : TI, PI X tg iter wi ∧ ∀ F1 H1, Grow F H F1 H1 → ∀ R : It → Hp → Prop, (∀ F2 H2, Grow F1 H1 F2 H2 → R (Itr lo n) H2) → wi σ H1 R
theorem r_1 {a : Expr} {n : Int} {tg : Expr} (o : Ok0 M X N sc) (hm : M.mg "range" = none) (h : XD M X a σ F H (.int n)) (hn : 0 ≤ n ∧ n < 2 ^ 62) (hg : sc.names.lookup ("range" : Str) = some .globalImplicit := by decide +kernel)
    (hs : starEach [a] X.env = [(false, eval a X.env)] := by rfl) : XR X tg (.Call (.Name "range" p) [a] [] pos) σ F H 0 n.toNat := by
  refine ⟨_, pi_range1 (gl_of o hg) (by rw [o.eG]; exact hm) (pa_cons WE.pe pa_nil (by rw [hs]; rfl)) hs, fun F1 H1 g R q => ?_⟩
  refine h.run F1 H1 g _ fun v F2 H2 g2 r2 => ?_
  cases r2
  exact ⟨n, rfl, by omega, hn.2, q F2 H2 g2⟩
theorem r_n {a : Expr} {n : Nat} {tg : Expr} (o : Ok0 M X N sc) (hm : M.mg "range" = none) (h : XD M X a σ F H (.int (n : Int))) (hn : n ≤ 100000) (hg : sc.names.lookup ("range" : Str) = some .globalImplicit)
    (hs : starEach [a] X.env = [(false, eval a X.env)] := by rfl) : XR X tg (.Call (.Name "range" p) [a] [] pos) σ F H 0 n := by
  have q := r_1 (n := (n : Int)) (p := p) (pos := pos) (tg := tg) o hm h (by omega) hg hs
  rw [show ((n : Int)).toNat = n by omega] at q
  exact q
theorem r_2 {a b : Expr} {lo n : Int} {tg : Expr} (o : Ok0 M X N sc) (hm : M.mg "range" = none) (h : XD M X a σ F H (.int lo)) (h2 : XD M X b σ F H (.int n)) (hn : -(2 ^ 62) ≤ lo ∧ lo < 2 ^ 62 ∧ -(2 ^ 62) ≤ n ∧ n < 2 ^ 62) (hg : sc.names.lookup ("range" : Str) = some .globalImplicit := by decide +kernel)
    (hs : starEach [a, b] X.env = [(false, eval a X.env), (false, eval b X.env)] := by rfl) (hs2 : starEach [b] X.env = [(false, eval b X.env)] := by rfl) : XR X tg (.Call (.Name "range" p) [a, b] [] pos) σ F H lo (n - lo).toNat := by
  refine ⟨_, pi_range2 (gl_of o hg) (by rw [o.eG]; exact hm) (pa_cons WE.pe (pa_cons WE.pe pa_nil (by rw [hs2]; rfl)) (by rw [hs, hs2])) hs hs2, fun F1 H1 g R q => ?_⟩
  refine h.run F1 H1 g _ fun v F2 H2 g2 r2 => ?_
  cases r2
  refine h2.run F2 H2 (g.trans g2) _ fun v F3 H3 g3 r3 => ?_
  cases r3
  exact ⟨lo, n, rfl, hn, q F3 H3 (g2.trans g3)⟩
theorem o_lcX {elt : Expr} {scope : Scope} {ifs : List Expr} (o : Ok M X N sc k) (own : List (Str × Nat)) (j : Nat) {lo : Int} {n : Nat} (p : Nat → Bool) (g : Nat → PyData) (hi : XR X (.Name x tp) iter σ F H lo n) (ok : blkC N sc scope own = true) (hj : j ∈ own.map (·.2)) (hx : N[j]? = some x) (hxl : (relS scope sc).names.lookup x = some .local)
    (hif : ifs = [] ∨ ∃ c, ifs = [c]) (hz : n < 100000) (ht : ∀ i : Nat, i < n → ∀ F1 H1, Grow F H F1 H1 → Blk M X N sc scope k ifs elt ((wipe σ (own.map (·.2))).set j (some (.int (lo + (i : Int))))) F1 H1 (p i) (g i)) (hp : ifs = [] → ∀ z, p z = true)
    (hs : ∀ x, foldedSetIterable iter X.env x = pure x := by intro _; rfl) : XO M X (.ListComp elt [⟨.Name x tp, iter, ifs, 0⟩] scope pos) σ F H (kept (List.range n) p g) := by
  obtain ⟨wi, hpi, run⟩ := hi.ex
  exact o_lcR o own j lo n p g hpi run ok hj hx hxl hif hz ht hp hs
theorem t_forR (o : Ok M X N sc k) (fs : Fs X) (S : Stt M.K F H σ env) (hN : At N j x) {lo : Int} {n : Nat} (hi : XR X (.Name x tp) iter σ F H lo n) (Pv : Nat → Hp → L2.St → Hp → Prop)
    (h0 : ∀ F' H', Grow F H F' H' → Stt M.K F' H' σ env → Pv 0 F' σ H')
    (hs : ∀ i F' σ' H', i < n → Same F F' → Same F' H' → Pv i F' σ' H' → WS X body { D with nx := Nx (Pv (i + 1)) F', ct := Nx (Pv (i + 1)) F', bk := D.nx } (σ'.set j (some (.int (lo + (i : Int))))) H')
    (hd : ∀ F' σ' H', Same F F' → Same F' H' → Pv n F' σ' H' → D.nx σ' H') (hl : locB sc x = true := by decide +kernel) (hf : ∀ x, foldedSetIterable iter X.env x = pure x := by intro _; rfl) : W1 X (.For (.Name x tp) iter body [] pos) D σ H := by
  have hx : L2.Loc X.env.scope x := by
    rw [o.eS]
    exact loc_of hl
  have hG : PG X (.Name x tp) (gName j) := pg_name (by rw [o.eN]; exact o.nd) (by rw [o.eN]; exact hN.get) hx (.inl (fs.fn x))
  obtain ⟨wi, hpi, run⟩ := hi.ex
  refine W1.of (ps_for o.pass o.calm hpi hG WS.ps hf) ?_
  refine run F H (Grow.refl S.le) _ fun F2 H2 g2 => ?_
  refine ⟨fun i m σ' H' => m = n - i ∧ i ≤ n ∧ ∃ F', Same F2 F' ∧ Same F' H' ∧ Pv i F' σ' H', ⟨_, rfl, Nat.zero_le _, F2, Same.refl _, g2.le, h0 F2 H2 g2 (S.grow g2)⟩, ?_⟩
  rintro i m σ' H' ⟨rfl, hi, F', e1, e2, P⟩
  by_cases hlt : i < n
  · refine .inr ⟨hlt, Nx (Pv (i + 1)) F', fun σ'' H'' q => ?_, fun v H'' hv => ?_⟩
    · obtain ⟨F3, c1, c2, P3⟩ := q
      exact ⟨_, by omega, rfl, hlt, F3, e1.trans c1, c2, P3⟩
    · obtain ⟨rfl, rfl⟩ := hv
      exact hs i F' σ' _ hlt (g2.ex.trans e1) e2 P
  · have ei : i = n := Nat.le_antisymm hi (Nat.le_of_not_lt hlt)
    subst ei
    exact .inl ⟨Nat.le_refl _, hd F' σ' H' (g2.ex.trans e1) e2 P⟩
/-- while, by a word W with its measure -/
theorem t_while {c : Expr} (o : Ok M X N sc k) (W : Nat → Hp → L2.St → Hp → Prop) (m0 : Nat) (h0 : W m0 F σ H) (le : Same F H)
    (hs : ∀ m F' σ' H', Same F F' → Same F' H' → W m F' σ' H' → ∃ b, XB M X c σ' F' H' b ∧
      (b = true → ∀ F2 H2, Grow F' H' F2 H2 → WS X body { D with nx := fun σ'' H'' => ∃ m' F3, m' < m ∧ Same F2 F3 ∧ Same F3 H'' ∧ W m' F3 σ'' H'', ct := fun σ'' H'' => ∃ m' F3, m' < m ∧ Same F2 F3 ∧ Same F3 H'' ∧ W m' F3 σ'' H'', bk := D.nx } σ' H2) ∧
      (b = false → ∀ F2 H2, Grow F' H' F2 H2 → D.nx σ' H2)) : W1 X (.While c body [] pos) D σ H := by
  refine W1.of (ps_while o.pass WT.pt WS.ps) ?_
  refine ⟨fun m σ' H' => ∃ F', Same F F' ∧ Same F' H' ∧ W m F' σ' H', ⟨m0, F, Same.refl _, le, h0⟩, ?_⟩
  rintro m σ' H' ⟨F', e1, e2, w⟩
  obtain ⟨b, hb, ht, hf⟩ := hs m F' σ' H' e1 e2 w
  refine hb.run F' H' (Grow.refl e2) _ fun F2 H2 g2 => ?_
  cases b with
  | true =>
    rw [if_pos rfl]
    refine ⟨_, fun σ'' H'' q => ?_, ht rfl F2 H2 g2⟩
    obtain ⟨m', F3, h1, h2, h3, h4⟩ := q
    exact ⟨m', h1, F3, (e1.trans g2.ex).trans h2, h3, h4⟩
  | false =>
    rw [if_neg Bool.false_ne_true]
    exact hf rfl F2 H2 g2
/-! ### one's own list, grown -/
theorem s_append {i : Nat} {l : Addr} {us : List V} {ds : List PyData} {d : PyData} {np ap : Pos} (o : Ok M X N sc k) (S : Stt M.K F H σ env) (hN : At N i x) (hv : σ[i]? = some (some (.ref l))) (hF : F l = none) (hl : H l = some (.lst us)) (r : Dns M.K F us ds) (hz : ds.length < 100000)
    (h : XD M X e σ F H d) (kk : ∀ F' H' us', Grow F H F' H' → F' l = none → Dns M.K F' us' (ds ++ [d]) → D.nx σ (upd H' l (.lst us'))) (hs : visB sc x = true)
    (hst : starEach [e] X.env = (false, eval e X.env) :: starEach [] X.env := by rfl) (hline : (ap.endLine == pos.line) = true := by rfl)
    (hfew : ((backTo pos (starEach [e] X.env)).all (fun x => !x.1) && (backToKw pos (keywordEach [] X.env)).all (fun x => x.1.isSome) && decide ([e].length + ([] : List Keyword).length + (if ([] : List Keyword).isEmpty then 0 else 1) < 30)) = true := by rfl)
    (hpl : (backTo pos (starEach [] X.env)).any (·.1) = false := by rfl) (hd : (x == ("__debug__" : Str)) = false := by decide +kernel) (hcd : (x == ("__classdict__" : Str)) = false := by decide +kernel)
    (hbase : attributeBase (.Name x np) "append" X.env (eval (.Name x np) X.env) = eval (.Name x np) X.env := by rfl) (hsw : swapsWith (.Call (.Attribute (.Name x np) "append" ap) [e] [] pos) none p.line X.env = pure false := by rfl) :
    W1 X (.Expr (.Call (.Attribute (.Name x np) "append" ap) [e] [] pos) p) D σ H := by
  refine s_expr (WE.of (pe_bm PySem.F.plainAttrs_list PySem.F.slot_list_append PySem.F.type_list_append mt_append WE.pe (pa_cons WE.pe pa_nil hst) hbase hfew hline hst hpl) ?_) hsw
  refine we_slot o.toOk0 i hv ?_ hN.get hs hd hcd
  refine ⟨.inl ⟨rfl, _, by rw [o.eK]; exact SqL.of hl⟩, ?_⟩
  refine h.run F H (Grow.refl S.le) _ fun v F2 H2 g2 r2 => ?_
  have hF2 : F2 l = none := g2.new l hF (by rw [hl]; intro z; cases z)
  refine ⟨l, us, v, rfl, rfl, g2.kp _ _ hl, ?_, kk F2 H2 (us ++ [v]) g2 hF2 ((r.mono g2.ex).app (.cons r2 .nil))⟩
  rw [r.len]
  exact Nat.lt_of_lt_of_le hz (by decide)
theorem s_extend {i : Nat} {l : Addr} {us : List V} {ds ds2 : List PyData} {np ap : Pos} (o : Ok M X N sc k) (S : Stt M.K F H σ env) (hN : At N i x) (hv : σ[i]? = some (some (.ref l))) (hF : F l = none) (hl : H l = some (.lst us)) (r : Dns M.K F us ds) (hz : ds.length + ds2.length < 100000)
    (h : XO M X e σ F H ds2) (kk : ∀ F' H' us', Grow F H F' H' → F' l = none → Dns M.K F' us' (ds ++ ds2) → D.nx σ (upd H' l (.lst us'))) (hs : visB sc x = true)
    (hst : starEach [e] X.env = (false, eval e X.env) :: starEach [] X.env := by rfl) (hline : (ap.endLine == pos.line) = true := by rfl)
    (hfew : ((backTo pos (starEach [e] X.env)).all (fun x => !x.1) && (backToKw pos (keywordEach [] X.env)).all (fun x => x.1.isSome) && decide ([e].length + ([] : List Keyword).length + (if ([] : List Keyword).isEmpty then 0 else 1) < 30)) = true := by rfl)
    (hpl : (backTo pos (starEach [] X.env)).any (·.1) = false := by rfl) (hd : (x == ("__debug__" : Str)) = false := by decide +kernel) (hcd : (x == ("__classdict__" : Str)) = false := by decide +kernel)
    (hbase : attributeBase (.Name x np) "extend" X.env (eval (.Name x np) X.env) = eval (.Name x np) X.env := by rfl) (hsw : swapsWith (.Call (.Attribute (.Name x np) "extend" ap) [e] [] pos) none p.line X.env = pure false := by rfl) :
    W1 X (.Expr (.Call (.Attribute (.Name x np) "extend" ap) [e] [] pos) p) D σ H := by
  refine s_expr (WE.of (pe_bm PySem.F.plainAttrs_list PySem.F.slot_list_extend PySem.F.type_list_extend mt_extend WE.pe (pa_cons WE.pe pa_nil hst) hbase hfew hline hst hpl) ?_) hsw
  refine we_slot o.toOk0 i hv ?_ hN.get hs hd hcd
  refine ⟨.inl ⟨rfl, _, by rw [o.eK]; exact SqL.of hl⟩, ?_⟩
  refine h.run F H (Grow.refl S.le) _ fun q vs F2 H2 g2 hq hq0 hq2 r2 => ?_
  have hF2 : F2 l = none := g2.new l hF (by rw [hl]; intro z; cases z)
  refine ⟨l, q, us, vs, rfl, rfl, g2.kp _ _ hl, hq2, ?_, kk F2 H2 (us ++ vs) g2 hF2 ((r.mono g2.ex).app r2)⟩
  rw [r.len, r2.len]
  exact Nat.le_of_lt (Nat.lt_of_lt_of_le hz (by decide))
end
end Lay

/-! Lay5: constants of the module, states forgotten, more rules. -/
namespace Lay
open PySem L2

/-- a constant of the module -/
structure Gc (M : Md) (x : Str) (d : PyData) : Prop where
  ex : ∃ (v : V) (u : Value), M.mg x = some u ∧ RelV v u ∧ ∀ F, Dn M.K F v d
section
variable {M : Md} {X : Cx} {N : List Str} {sc : Scope} {k j : Nat} {σ : L2.St} {env env' : List (Option PyData)} {F H G J : Hp} {d : PyData} {ds : List PyData} {e a b : Expr} {pos p : Pos} {x : Str}
theorem x_const (o : Ok M X N sc k) (h : Gc M x d) (hg : sc.names.lookup x = some .globalImplicit) (hd : (x == ("__debug__" : Str)) = false) : XD M X (.Name x pos) σ F H d := by
  obtain ⟨v, u, h1, h2, h3⟩ := h.ex
  exact x_glob o.toOk0 h1 h2 (h3 F) hg hd
theorem Stt.forget {K : PySem.W.Frag} (S : Stt K F H σ env) (hl : env'.length = env.length) (h : ∀ (i : Nat) (d : PyData), env'[i]? = some (some d) → env[i]? = some (some d)) : Stt K F H σ env' :=
  ⟨S.le, fun i d q => S.sl i d (h i d q), hl.trans S.ln⟩
/-- the last slots forgotten, one after the other: each place of env' is none or that of env -/
def leB : List (Option PyData) → List (Option PyData) → Prop
  | [], [] => True
  | a :: r, b :: s => (a = none ∨ a = b) ∧ leB r s
  | _, _ => False
theorem leB_len : ∀ {a b : List (Option PyData)}, leB a b → a.length = b.length
  | [], [], _ => rfl
  | _ :: _, _ :: _, h => congrArg (· + 1) (leB_len h.2)
  | [], _ :: _, h => h.elim
  | _ :: _, [], h => h.elim
theorem leB_get : ∀ {a b : List (Option PyData)} {i : Nat} {d : PyData}, leB a b → a[i]? = some (some d) → b[i]? = some (some d)
  | [], _, _, _, _, q => by simp at q
  | _ :: _, [], _, _, h, _ => h.elim
  | x :: r, y :: s, 0, d, h, q => by
    simp at q
    subst q
    rcases h.1 with z | z
    · cases z
    · rw [← z]
      rfl
  | x :: r, y :: s, i + 1, d, h, q => by
    have := leB_get (i := i) h.2 (by simpa using q)
    simpa using this
theorem Stt.less {K : PySem.W.Frag} (S : Stt K F H σ env) (h : leB env' env) : Stt K F H σ env' := S.forget (leB_len h) fun _ _ q => leB_get h q
theorem cut_none {ns : List PyData} (i : Nat) (h : i ≤ ns.length) : cutD ns none (some (i : Int)) = ns.take i := by
  unfold cutD
  rw [HT.sIx_none, HT.sIx_nat, Nat.min_eq_left h]
  simp
theorem cut_from {ns : List PyData} (i : Nat) (h : i ≤ ns.length) : cutD ns (some (i : Int)) none = ns.drop i := by
  unfold cutD
  rw [HT.sIx_none, HT.sIx_nat, Nat.min_eq_left h]
  have : (ns.drop i).length = ns.length - i := List.length_drop
  rw [List.take_of_length_le (by omega)]
theorem strEq_rule {y z : Str} : ∀ v w F1 H1, Grow F H F1 H1 → Dn M.K H1 v (.str y) → Dn M.K H1 w (.str z) → ∀ Q : VK, (∀ F' H', Grow F1 H1 F' H' → Q (.bl (decide (y = z))) H') → rEq v w H1 Q := fun v w F1 H1 g rx ry Q q => by
  cases rx
  cases ry
  refine ⟨rfl, ?_⟩
  have e : decide (V.str y = V.str z) = decide (y = z) := by
    by_cases h : y = z
    · subst h
      simp
    · rw [decide_eq_false h, decide_eq_false (fun z => h (V.str.inj z))]
  rw [e]
  exact q F1 H1 (Grow.refl g.le)
theorem strNe_rule {y z : Str} : ∀ v w F1 H1, Grow F H F1 H1 → Dn M.K H1 v (.str y) → Dn M.K H1 w (.str z) → ∀ Q : VK, (∀ F' H', Grow F1 H1 F' H' → Q (.bl (!decide (y = z))) H') → rNe v w H1 Q := fun v w F1 H1 g rx ry Q q => by
  cases rx
  cases ry
  refine ⟨rfl, ?_⟩
  have e : decide (V.str y = V.str z) = decide (y = z) := by
    by_cases h : y = z
    · subst h
      simp
    · rw [decide_eq_false h, decide_eq_false (fun z => h (V.str.inj z))]
  rw [e]
  exact q F1 H1 (Grow.refl g.le)
theorem b_eqS {y z : Str} (ha : XH M X a σ F H (.str y)) (hb : XH M X b σ F H (.str z)) : XB M X (.Compare a [.Eq] [b] pos) σ F H (decide (y = z)) := b_cmp op_eq (nomark _) ha hb strEq_rule
theorem b_neS {y z : Str} (ha : XH M X a σ F H (.str y)) (hb : XH M X b σ F H (.str z)) : XB M X (.Compare a [.NotEq] [b] pos) σ F H (!decide (y = z)) := b_cmp op_ne (nomark _) ha hb strNe_rule
theorem x_eqS {y z : Str} (ha : XH M X a σ F H (.str y)) (hb : XH M X b σ F H (.str z)) : XD M X (.Compare a [.Eq] [b] pos) σ F H (.bool (decide (y = z))) := x_cmp op_eq (nomark _) ha hb strEq_rule
theorem x_neS {y z : Str} (ha : XH M X a σ F H (.str y)) (hb : XH M X b σ F H (.str z)) : XD M X (.Compare a [.NotEq] [b] pos) σ F H (.bool (!decide (y = z))) := x_cmp op_ne (nomark _) ha hb strNe_rule
/-! ### equality of data that is often met -/
theorem eqv_int (i j : Int) : PyData.eqv (.int i) (.int j) = (i == j) := rfl
theorem eqv_ints : ∀ (a b : List Int), PyData.eqvAll (a.map PyData.int) (b.map PyData.int) = (a == b)
  | [], [] => rfl
  | [], _ :: _ => rfl
  | _ :: _, [] => rfl
  | x :: a, y :: b => by
    show (x == y && PyData.eqvAll (a.map PyData.int) (b.map PyData.int)) = _
    rw [eqv_ints a b]
    rfl
theorem eqv_bools : ∀ (a b : List Bool), PyData.eqvAll (a.map PyData.bool) (b.map PyData.bool) = (a == b)
  | [], [] => rfl
  | [], _ :: _ => rfl
  | _ :: _, [] => rfl
  | x :: a, y :: b => by
    show (x == y && PyData.eqvAll (a.map PyData.bool) (b.map PyData.bool)) = _
    rw [eqv_bools a b]
    rfl
/-- lists and tuples of data without depth -/
def flatD : PyData → Bool
  | .none => true
  | .bool _ => true
  | .int _ => true
  | .str x => (PyData.str x).canLay0
  | _ => false
theorem flat_can : ∀ {ds : List PyData}, (∀ d ∈ ds, flatD d = true) → PyData.canLayAll0 ds = true ∧ PyData.depthAll ds = 0
  | [], _ => ⟨rfl, rfl⟩
  | d :: r, h => by
    obtain ⟨h1, h2⟩ := flat_can fun x hx => h x (List.mem_cons_of_mem _ hx)
    have hd := h d List.mem_cons_self
    have c1 : d.canLay0 = true := by
      cases d <;> first | rfl | exact hd | (exfalso; exact Bool.noConfusion hd)
    have c2 : d.depth = 0 := by
      cases d <;> first | rfl | (exfalso; exact Bool.noConfusion hd)
    refine ⟨?_, ?_⟩
    · show (d.canLay0 && PyData.canLayAll0 r) = true
      rw [h1, c1]
      rfl
    · show max d.depth (PyData.depthAll r) = 0
      rw [h2, c2]
      rfl
theorem pl_list {ds : List PyData} (h : ∀ d ∈ ds, flatD d = true) : Pl (.list ds) := by
  obtain ⟨h1, h2⟩ := flat_can h
  show ((PyData.list ds).canLay0 && decide ((PyData.list ds).depth ≤ 64)) = true
  have e1 : (PyData.list ds).canLay0 = PyData.canLayAll0 ds := rfl
  have e2 : (PyData.list ds).depth = PyData.depthAll ds + 1 := rfl
  rw [e1, e2, h1, h2]
  rfl
theorem pl_ints (ns : List Int) : Pl (.list (ns.map PyData.int)) := pl_list fun d hd => by
  obtain ⟨n, _, rfl⟩ := List.mem_map.mp hd
  rfl
theorem pl_bools (ns : List Bool) : Pl (.list (ns.map PyData.bool)) := pl_list fun d hd => by
  obtain ⟨n, _, rfl⟩ := List.mem_map.mp hd
  rfl
end
end Lay
namespace Lay
open PySem L2
section
variable {M : Md} {X : Cx} {σ : L2.St} {F H : Hp} {a b c : Expr} {pos : Pos} {i j l : Int}
theorem b_lele (ha : XD M X a σ F H (.int i)) (hb : XD M X b σ F H (.int j)) (hc : XD M X c σ F H (.int l)) (hm : lastMarks [.LtE, .LtE] [b, c] = false := by with_unfolding_all rfl) : XB M X (.Compare a [.LtE, .LtE] [b, c] pos) σ F H (decide (i ≤ j) && decide (j ≤ l)) :=
  b_chain (g := fun i j => decide (i ≤ j)) (g' := fun i j => decide (i ≤ j)) op_le op_le ha hb hc hm
theorem b_lelt (ha : XD M X a σ F H (.int i)) (hb : XD M X b σ F H (.int j)) (hc : XD M X c σ F H (.int l)) (hm : lastMarks [.LtE, .Lt] [b, c] = false := by with_unfolding_all rfl) : XB M X (.Compare a [.LtE, .Lt] [b, c] pos) σ F H (decide (i ≤ j) && decide (j < l)) :=
  b_chain (g := fun i j => decide (i ≤ j)) (g' := fun i j => decide (i < j)) op_le op_lt ha hb hc hm
theorem x_lele (ha : XD M X a σ F H (.int i)) (hb : XD M X b σ F H (.int j)) (hc : XD M X c σ F H (.int l)) (hm : lastMarks [.LtE, .LtE] [b, c] = false := by with_unfolding_all rfl) : XD M X (.Compare a [.LtE, .LtE] [b, c] pos) σ F H (.bool (decide (i ≤ j) && decide (j ≤ l))) :=
  x_chain (g := fun i j => decide (i ≤ j)) (g' := fun i j => decide (i ≤ j)) op_le op_le ha hb hc hm
end
end Lay

/-! Lay6: try .. except X as n; isinstance of the caught error; raising calls. -/
namespace Lay
open PySem L2
section
variable {M : Md} {X : Cx} {N : List Str} {sc : Scope} {k j i : Nat} {σ : L2.St} {env : List (Option PyData)} {F H : Hp} {d : PyData} {ds : List PyData} {e : Expr} {es : List Expr} {body suite : List Stmt} {b0 : Stmt} {D : Ends} {pos p np pos' : Pos} {x n : Str} {sp : Sp} {R : List PyData → Out → Prop} {Q : VK} {E : XK} {W : WX}
/-- a call that may raise; the wish of errors leans on the slots -/
theorem we_callX (o : Ok M X N sc k) (fc : Fc M (L2.CX M.P M.w) x j sp) (hj : j ≤ k) (tk : Takes X W) (h : WA X (e :: es) σ H fun vs H1 => sp vs H1 Q fun cls d H' => W cls d σ H') (hg : sc.names.lookup x = some .globalImplicit)
    (hdb : (x == ("__debug__" : Str)) = false) (he : starEach (e :: es) X.env = (false, eval e X.env) :: starEach es X.env := by rfl) (hpl : (backTo pos (starEach es X.env)).any (·.1) = false := by rfl) :
    WE X (.Call (.Name x p) (e :: es) [] pos) σ H Q := by
  obtain ⟨f, fd, ps, gm, kp, bd, ok⟩ := fc.ex
  rw [← o.eP, ← o.eW, ← o.eK, ← o.eG, ← o.eB] at ok
  exact WE.of (pe_callS (E := L2.WE W) ok (o.room.mono hj) (gl_of o.toOk0 hg) (by rw [o.eG]; exact gm) (by rw [o.eK]; exact kp) (by rw [o.eK]; exact bd) (fun τ => passAt tk τ) WA.pa hdb he hpl) h
/-- what a raised class leads to, at the state behind the arguments -/
def EndsIn (M : Md) (W : WX) (σ : L2.St) (F H : Hp) (Q : VK) : Out → Prop
  | .val d => ∀ v F' H', Grow F H F' H' → Dn M.K F' v d → Q v H'
  | .own ds => ∀ p vs F' H', Grow F H F' H' → F' p = none → H p = none → H' p = some (.lst vs) → Dns M.K F' vs ds → Q (.ref p) H'
  | .err C => ∀ F' H', Grow F H F' H' → W (.ref C) none σ H'
theorem x_callX {r : Out} (o : Ok M X N sc k) (fc : Fc M (L2.CX M.P M.w) x j (spG M.K R)) (tk : Takes X W) (le : Same F H) (ha : XA M X (e :: es) σ F H ds) (hr : R ds r) (kk : EndsIn M W σ F H Q r) (hj : j ≤ k) (hg : sc.names.lookup x = some .globalImplicit)
    (hdb : (x == ("__debug__" : Str)) = false := by decide +kernel) (he : starEach (e :: es) X.env = (false, eval e X.env) :: starEach es X.env := by rfl) (hpl : (backTo pos (starEach es X.env)).any (·.1) = false := by rfl) :
    WE X (.Call (.Name x p) (e :: es) [] pos) σ H Q := by
  refine we_callX o fc hj tk (ha.run F H (Grow.refl le) _ fun vs F2 H2 g2 r2 => ⟨F2, ds, r, g2.le, r2, hr, ?_⟩) hg hdb he hpl
  cases r with
  | val d => exact fun v F' H' g' r' => kk v F' H' (g2.trans g') r'
  | own ds => exact fun l vs F' H' g' h1 h2 h3 r' => kk l vs F' H' (g2.trans g') h1 (g2.kp.free h2) h3 r'
  | err C => exact fun F' H' g' => kk F' H' (g2.trans g')
/-- in a def that lets its own errors out, W being the wish E -/
theorem Done.ends {r : Out} (h : Done M.K F H Q E r) : EndsIn M (fun cls d _ H => E cls d H) σ F H Q r := by
  cases r with
  | val d => exact h
  | own ds => exact h
  | err C => exact h

/-! ### try .. except x as n -/
theorem Ok.tr (o : Ok M X N sc k) {pn : List (Addr × Obj)} {xe : Value → Shared → Prop} (h : PassesOwn (model X.prog X.w) X.A X.env xe) : Ok M (X.tr pn xe) N sc k :=
  ⟨⟨o.eP, o.eW, o.eK, o.eG, o.eB, o.eN, o.eS, o.nd⟩, o.calm, o.room, h⟩
theorem Fs.tr (o : Fs X) {pn : List (Addr × Obj)} {xe : Value → Shared → Prop} : Fs (X.tr pn xe) := ⟨o.fn, o.stk, o.frm⟩
theorem Ok0.toSu (o : Ok0 M X N sc) {a : Addr} {pn : List (Addr × Obj)} : Ok0 M (X.suite a pn) N sc := ⟨o.eP, o.eW, o.eK, o.eG, o.eB, o.eN, o.eS, o.nd⟩
theorem Fs.toSu (o : Fs X) {a : Addr} {pn : List (Addr × Obj)} : Fs (X.suite a pn) := ⟨o.fn, o.stk, o.frm⟩
/-- one stands in an except suite, the error at a, of the class cls -/
structure Suite (M : Md) (Z : Cx) (N : List Str) (sc : Scope) (a : Addr) (cls : Value) (d : Option Addr) : Prop where
  ok : Ok0 M Z N sc
  fs : Fs Z
  ex : ∃ (Y : Cx) (oe : Obj) (pn : List (Addr × Obj)), Z = Y.suite a ((a, oe) :: pn) ∧ Zc cls d oe ∧ ∃ vs, oe.data = .fields vs
def ends1 (D : Ends) (i : Nat) : Ends := { nx := fun σ' H' => D.nx (σ'.set i none) H', rt := D.rt, bk := fun σ' H' => D.bk (σ'.set i none) H', ct := fun σ' H' => D.ct (σ'.set i none) H' }
theorem t_try {c : Value} (o : Ok M X N sc k) (fs : Fs X) (hN : At N i n) (hl : sc.names.lookup n = some .local) (hx : sc.names.lookup x = some .globalImplicit) (hdb : (x == ("__debug__" : Str)) = false) (hm : M.mg x = some c)
    (hb : ∀ (W : WX), (∀ (C : Addr) σ' H', PySem.W.exmOne M.K (.ref C) c = some true → (∀ (Z : Cx) a, H' a = none → Suite M Z N sc a (.ref C) none → WS Z (b0 :: suite) (ends1 D i) (σ'.set i (some (.ref a))) H') → W (.ref C) none σ' H') →
      ∀ Y : Cx, Ok M Y N sc k → Fs Y → Takes Y W → WS Y body D σ H) :
    W1 X (.Try body [.ExceptHandler (some (.Name x np)) (some n) (b0 :: suite) pos'] [] [] pos) D σ H := by
  have hnames : Names X x c := ⟨gl_of o.toOk0 hx, hdb, .inl (by rw [o.eG]; exact hm)⟩
  have hkind : X.env.kindOf n = some .local := by
    unfold Env.kindOf
    rw [o.eS]
    exact hl
  refine W1.of (ps_try_as (i := i) (c := c) (Wout := fun _ _ _ _ => False)
    (tb := fun W D σ H => ∀ (pn : List (Addr × Obj)) (xe : Value → Shared → Prop), Takes (X.tr pn xe) W → PassesOwn (model X.prog X.w) X.A X.env xe → WS (X.tr pn xe) body D σ H)
    (ts := fun a cls d D σ H => ∀ (oe : Obj) (pn : List (Addr × Obj)), Zc cls d oe → (∃ vs, oe.data = .fields vs) → WS (X.suite a ((a, oe) :: pn)) (b0 :: suite) D σ H)
    fs.stk fs.frm (by rw [o.eN]; exact o.nd) (by rw [o.eN]; exact hN.get) hkind hnames takes0 (fun W pn xe tk po => ⟨fun pins s σ H D I h => (h pn xe tk po).run pins s I⟩) (fun a oe cls d pn hz hf => ⟨fun pins s σ H D I h => (h oe pn hz hf).run pins s I⟩)) ?_
  intro pn xe tk po
  refine hb _ (fun C σ' H' ex suite_ok => ?_) _ (o.tr po) fs.tr tk
  refine ⟨true, by rw [o.eK]; exact ex, fun _ a ha oe pn' hz hf => ?_, fun q => Bool.noConfusion q⟩
  exact suite_ok _ a ha ⟨o.toOk0.toSu, fs.toSu, X, oe, pn', rfl, hz, hf⟩
/-- isinstance(n, C), n the caught error, of the class at C0 -/
theorem x_isE {Z : Cx} {a C0 C : Addr} {b : Bool} {pC : Pos} (su : Suite M Z N sc a (.ref C0) none) (ec : ExcC M.K C0) (hm : M.mg "isinstance" = none) (i : Nat) (hN : N[i]? = some n) (hv : σ[i]? = some (some (.ref a))) (hC : M.mg x = some (.ref C))
    (kt : PySem.W.kitOne M.K (.ref C0) (.ref C) = some b) (hg : sc.names.lookup ("isinstance" : Str) = some .globalImplicit) (hgC : sc.names.lookup x = some .globalImplicit) (hs : nameB sc n = true) (hdb : (x == ("__debug__" : Str)) = false)
    (he : starEach [.Name n np, .Name x pC] Z.env = (false, eval (.Name n np) Z.env) :: starEach [.Name x pC] Z.env := by rfl) (he2 : starEach [.Name x pC] Z.env = (false, eval (.Name x pC) Z.env) :: starEach [] Z.env := by rfl) (hpl : (backTo pos (starEach [.Name x pC] Z.env)).any (·.1) = false := by rfl) :
    XD M Z (.Call (.Name "isinstance" p) [.Name n np, .Name x pC] [] pos) σ F H (.bool b) := by
  refine ⟨fun F1 H1 g Q q => ?_⟩
  have o := su.ok
  obtain ⟨Y, oe, pn, e1, hz, hf⟩ := su.ex
  unfold nameB at hs
  simp only [Bool.and_eq_true, Bool.not_eq_true'] at hs
  have hc : CallR Z (.builtin "isinstance") (rIsE Z.K C0 a) := by
    rw [e1]
    have ec' : ExcC Y.K C0 := by
      have : Y.K = M.K := by
        have := o.eK
        rw [e1] at this
        exact this
      rw [this]
      exact ec
    exact call_isE ec' hz hf
  refine WE.of (pe_callB hc (gl_of o hg) (by rw [o.eG]; exact hm) PyProof.Rows.boot_isinstance (pa_cons WE.pe (pa_cons (pe_glob (v := .ref C) (gl_of o hgC) (by rw [o.eG]; exact hC) rfl hdb) pa_nil he2) he) (by decide +kernel) (by decide +kernel) he hpl) ?_
  refine we_slot o i hv ?_ hN hs.1.1 hs.1.2 hs.2
  exact ⟨.ref C, .ref C, b, rfl, fun u r => r, by rw [o.eK]; exact kt, q _ F1 H1 (Grow.refl g.le) (.bl b)⟩
theorem x_isEB {Z : Cx} {a C0 : Addr} {T' : String} {b : Bool} {pC : Pos} (su : Suite M Z N sc a (.ref C0) none) (ec : ExcC M.K C0) (hm : M.mg "isinstance" = none) (i : Nat) (hN : N[i]? = some n) (hv : σ[i]? = some (some (.ref a))) (hC : M.mg x = none) (hbt : bootBuiltins x = some (.type T'))
    (kt : PySem.W.kitOne M.K (.ref C0) (.type T') = some b) (hg : sc.names.lookup ("isinstance" : Str) = some .globalImplicit) (hgC : sc.names.lookup x = some .globalImplicit) (hs : nameB sc n = true) (hnn : x ≠ "__name__") (hdb : (x == ("__debug__" : Str)) = false)
    (he : starEach [.Name n np, .Name x pC] Z.env = (false, eval (.Name n np) Z.env) :: starEach [.Name x pC] Z.env := by rfl) (he2 : starEach [.Name x pC] Z.env = (false, eval (.Name x pC) Z.env) :: starEach [] Z.env := by rfl) (hpl : (backTo pos (starEach [.Name x pC] Z.env)).any (·.1) = false := by rfl) :
    XD M Z (.Call (.Name "isinstance" p) [.Name n np, .Name x pC] [] pos) σ F H (.bool b) := by
  refine ⟨fun F1 H1 g Q q => ?_⟩
  have o := su.ok
  obtain ⟨Y, oe, pn, e1, hz, hf⟩ := su.ex
  unfold nameB at hs
  simp only [Bool.and_eq_true, Bool.not_eq_true'] at hs
  have hc : CallR Z (.builtin "isinstance") (rIsE Z.K C0 a) := by
    rw [e1]
    have ec' : ExcC Y.K C0 := by
      have : Y.K = M.K := by
        have := o.eK
        rw [e1] at this
        exact this
      rw [this]
      exact ec
    exact call_isE ec' hz hf
  refine WE.of (pe_callB hc (gl_of o hg) (by rw [o.eG]; exact hm) PyProof.Rows.boot_isinstance (pa_cons WE.pe (pa_cons (pe_bltn (v := .ty T') (gl_of o hgC) (by rw [o.eG]; exact hC) hbt rfl hnn hdb) pa_nil he2) he) (by decide +kernel) (by decide +kernel) he hpl) ?_
  refine we_slot o i hv ?_ hN hs.1.1 hs.1.2 hs.2
  exact ⟨.ty T', .type T', b, rfl, fun u r => r, by rw [o.eK]; exact kt, q _ F1 H1 (Grow.refl g.le) (.bl b)⟩
end
end Lay

namespace Lay
open PySem L2
theorem kt_ii : kitB "int" "int" = some true := by decide +kernel
theorem kt_ib : kitB "int" "bool" = some false := by decide +kernel
theorem kt_tt : kitB "tuple" "tuple" = some true := by decide +kernel
theorem kt_bb : kitB "bool" "bool" = some true := by decide +kernel
theorem kt_ll : kitB "list" "list" = some true := by decide +kernel
theorem kt_ss : kitB "str" "str" = some true := by decide +kernel
theorem kt_bi : kitB "bool" "int" = some true := by decide +kernel
end Lay

/-! Lay7: one's own lists; tuples put together, cut; x in a list; tuples unpacked. -/
namespace Lay
open PySem L2

/-- one's own list at l, made since F0, H0 -/
structure Ow (K : PySem.W.Frag) (F0 H0 F H : Hp) (l : Addr) (ds : List PyData) : Prop where
  g : Grow F0 H0 F H
  fF : F l = none
  fH : H0 l = none
  at' : ∃ us, H l = some (.lst us) ∧ Dns K F us ds
section
variable {K : PySem.W.Frag} {F0 H0 F H G J : Hp} {l : Addr} {ds ds' : List PyData} {d : PyData} {σ : L2.St} {env : List (Option PyData)}
theorem ow_new (g : Grow F0 H0 G J) (hG : G l = none) (h0 : H0 l = none) {us : List V} (hJ : J l = some (.lst us)) (r : Dns K G us ds) : Ow K F0 H0 G J l ds := ⟨g, hG, h0, us, hJ, r⟩
theorem Ow.grow (w : Ow K F0 H0 F H l ds) (g : Grow F H G J) : Ow K F0 H0 G J l ds := by
  obtain ⟨us, h1, h2⟩ := w.at'
  refine ⟨w.g.trans g, g.new l w.fF (by rw [h1]; intro z; cases z), w.fH, us, g.kp _ _ h1, h2.mono g.ex⟩
theorem Ow.le (w : Ow K F0 H0 F H l ds) : Same F H := w.g.le
/-- it is changed -/
theorem Ow.set (w : Ow K F0 H0 F H l ds) {us' : List V} (r : Dns K F us' ds') : Ow K F0 H0 F (upd H l (.lst us')) l ds' := ⟨w.g.set w.fF w.fH, w.fF, w.fH, us', upd_same, r⟩
theorem same_own (le : Same F H) (hF : F l = none) {o : HO} : Same F (upd H l o) := fun b u e => by
  rw [upd_ne (ne_of_none e hF)]
  exact le b u e
theorem Stt.own (S : Stt K F H σ env) (hF : F l = none) {o : HO} : Stt K F (upd H l o) σ env := ⟨same_own S.le hF, S.sl, S.ln⟩
theorem Stt.put (S : Stt K F H σ env) {i : Nat} {v : V} : Stt K F H (σ.set i (some v)) (env.set i none) := S.lose
/-- F and one's own list, for a while -/
theorem grow_under {u : HO} (g : Grow F H G J) (hF : F l = none) (hH : H l = some u) : Grow (upd F l u) H (upd G l u) J := by
  have hne : H l ≠ none := by rw [hH]; intro z; cases z
  have hG := g.new l hF hne
  have hJ : J l = some u := g.kp _ _ hH
  refine ⟨fun b o e => ?_, fun b o e => ?_, g.kp, fun b h1 h2 => ?_⟩
  · by_cases hb : b = l
    · subst hb
      rw [upd_same] at e ⊢
      exact e
    · rw [upd_ne hb] at e ⊢
      exact g.ex b o e
  · by_cases hb : b = l
    · subst hb
      rw [upd_same] at e
      rw [hJ]
      exact e
    · rw [upd_ne hb] at e
      exact g.le b o e
  · by_cases hb : b = l
    · subst hb
      rw [upd_same] at h1
      cases h1
    · rw [upd_ne hb] at h1 ⊢
      exact g.new b h1 h2
theorem under_back {u : HO} {F' H' : Hp} (le : Same G J) (hG : G l = none) (g : Grow (upd G l u) J F' H') : Grow G J G H' :=
  ⟨Same.refl G, fun b o e => g.le b o (g.ex b o (by rw [upd_ne (ne_of_none e hG)]; exact e)), g.kp, fun b h1 _ => h1⟩
theorem same_under {u : HO} (hF : F l = none) : Same F (upd F l u) := fun b o e => by
  rw [upd_ne (ne_of_none e hF)]
  exact e
theorem Stt.under (S : Stt K F H σ env) {us : List V} (hF : F l = none) (hH : H l = some (.lst us)) : Stt K (upd F l (.lst us)) H σ env :=
  ⟨fun b o e => by
    by_cases hb : b = l
    · subst hb
      rw [upd_same] at e
      rw [hH]
      exact e
    · rw [upd_ne hb] at e
      exact S.le b o e, S.sl.mono (same_under hF), S.ln⟩
/-- the slot that holds it, seen as data -/
theorem Stt.seen (S : Stt K F H σ env) {us : List V} {i : Nat} (hF : F l = none) (hH : H l = some (.lst us)) (r : Dns K F us ds) (hv : σ[i]? = some (some (.ref l))) : Stt K (upd F l (.lst us)) H σ (env.set i (some (.list ds))) := by
  have S' := (S.under hF hH).set (i := i) (v := .ref l) (d := .list ds) (.lst upd_same (r.mono (same_under hF)))
  have e : σ.set i (some (.ref l)) = σ := by
    apply List.ext_getElem?
    intro j
    by_cases hj : i = j
    · subst hj
      have hlt := (List.getElem?_eq_some_iff.mp hv).1
      rw [List.getElem?_set_self hlt, hv]
    · rw [List.getElem?_set_ne hj]
  rw [e] at S'
  exact S'
end
section
variable {M : Md} {X : Cx} {N : List Str} {sc : Scope} {k j i : Nat} {σ : L2.St} {env : List (Option PyData)} {F0 H0 F H : Hp} {d : PyData} {ds ds1 ds2 : List PyData} {e a b : Expr} {es : List Expr} {D : Ends} {pos p p2 np ap : Pos} {x : Str} {l : Addr} {Q : VK} {E : XK} {lo hi : Option Expr} {vlo vhi : Option Int}
/-- a test while one's own list stands for good -/
theorem XB.under {u : HO} {c : Bool} (hF : F l = none) (hH : H l = some u) (h : XB M X e σ (upd F l u) H c) : XB M X e σ F H c := by
  refine ⟨fun F1 H1 g Q q => ?_⟩
  have hne : H l ≠ none := by rw [hH]; intro z; cases z
  refine h.run _ H1 (grow_under g hF hH) Q fun F' H' g' => q F1 H' (under_back g.le (g.new l hF hne) g')
/-- data without depth -/
def bareD : PyData → Bool
  | .none => true
  | .bool _ => true
  | .int _ => true
  | .str _ => true
  | _ => false
theorem Dn.bare {K : PySem.W.Frag} {G J : Hp} {v : V} (r : Dn K G v d) (hd : bareD d = true) : Dn K J v d := by
  cases r with
  | non => exact .non
  | bl b => exact .bl b
  | int i => exact .int i
  | str x => exact .str x
  | lst _ _ => cases hd
  | tup _ _ => cases hd
  | scr _ => cases hd
theorem XD.under {u : HO} (hF : F l = none) (hH : H l = some u) (hd : bareD d = true) (h : XD M X e σ (upd F l u) H d) : XD M X e σ F H d := by
  refine ⟨fun F1 H1 g Q q => ?_⟩
  have hne : H l ≠ none := by rw [hH]; intro z; cases z
  refine h.run _ H1 (grow_under g hF hH) Q fun v F' H' g' r => q v F1 H' (under_back g.le (g.new l hF hne) g') (r.bare hd)
theorem x_own (o : Ok0 M X N sc) (w : Ow M.K F0 H0 F H l ds) (hN : At N i x) (hv : σ[i]? = some (some (.ref l))) (hs : nameB sc x = true) : XH M X (.Name x pos) σ F H (.list ds) := by
  unfold nameB at hs
  simp only [Bool.and_eq_true, Bool.not_eq_true'] at hs
  refine ⟨fun F1 H1 g Q q => ?_⟩
  obtain ⟨us, h1, h2⟩ := (w.grow g).at'
  exact we_slot o i hv (q _ F1 H1 (Grow.refl g.le) (.lst h1 (h2.mono g.le))) hN.get hs.1.1 hs.1.2 hs.2
/-- an item of one's own list -/
theorem x_ixO (o : Ok0 M X N sc) (w : Ow M.K F0 H0 F H l ds) (hN : At N i x) (hv : σ[i]? = some (some (.ref l))) (hs : nameB sc x = true) {z : Int} (hb : XD M X b σ F H (.int z)) (hd : atI ds z = some d) (hp : PlainIx b := by exact fun _ _ => rfl) : XD M X (.Subscript (.Name x np) b pos) σ F H d := by
  unfold nameB at hs
  simp only [Bool.and_eq_true, Bool.not_eq_true'] at hs
  refine ⟨fun F1 H1 g Q q => ?_⟩
  refine WE.of (pe_ix ix_list WE.pe WE.pe hp) ?_
  refine we_slot o i hv ?_ hN.get hs.1.1 hs.1.2 hs.2
  refine hb.run F1 H1 g _ fun y F3 H3 g3 r3 => ?_
  cases r3
  obtain ⟨us, h1, s⟩ := ((w.grow g).grow g3).at'
  unfold atI at hd
  cases e : ixN ds.length z with
  | none =>
    rw [e] at hd
    cases hd
  | some j =>
    rw [e] at hd
    obtain ⟨v, e1, r⟩ := s.get hd
    refine ⟨l, us, z, v, rfl, rfl, SqL.of h1, ?_, q v F3 H3 g3 r⟩
    unfold atI
    rw [s.len, e]
    exact e1
theorem t_retL (o : Ok0 M X N sc) (w : Ow M.K F0 H0 F H l ds) (hN : At N i x) (hv : σ[i]? = some (some (.ref l))) (dn : Done M.K F0 H0 D.rt E (.own ds)) (hs : nameB sc x = true) : W1 X (.Return (some (.Name x np)) pos) D σ H := by
  unfold nameB at hs
  simp only [Bool.and_eq_true, Bool.not_eq_true'] at hs
  obtain ⟨us, h1, h2⟩ := w.at'
  exact W1.of (ps_ret WE.pe) (we_slot o i hv (dn l us F H w.g w.fF w.fH h1 h2) hN.get hs.1.1 hs.1.2 hs.2)
theorem t_append (o : Ok M X N sc k) (S : Stt M.K F H σ env) (w : Ow M.K F0 H0 F H l ds) (hN : At N i x) (hv : σ[i]? = some (some (.ref l))) (hz : ds.length < 100000) (h : XD M X e σ F H d)
    (kk : ∀ us us' F' H', Grow F H F' H' → H' l = some (.lst us) → Stt M.K F' (upd H' l (.lst us')) σ env → Ow M.K F0 H0 F' (upd H' l (.lst us')) l (ds ++ [d]) → D.nx σ (upd H' l (.lst us'))) (hs : nameB sc x = true)
    (hst : starEach [e] X.env = (false, eval e X.env) :: starEach [] X.env := by rfl) (hline : (ap.endLine == pos.line) = true := by rfl)
    (hfew : ((backTo pos (starEach [e] X.env)).all (fun x => !x.1) && (backToKw pos (keywordEach [] X.env)).all (fun x => x.1.isSome) && decide ([e].length + ([] : List Keyword).length + (if ([] : List Keyword).isEmpty then 0 else 1) < 30)) = true := by rfl)
    (hpl : (backTo pos (starEach [] X.env)).any (·.1) = false := by rfl)
    (hbase : attributeBase (.Name x np) "append" X.env (eval (.Name x np) X.env) = eval (.Name x np) X.env := by rfl) (hsw : swapsWith (.Call (.Attribute (.Name x np) "append" ap) [e] [] pos) none p.line X.env = pure false := by rfl) :
    W1 X (.Expr (.Call (.Attribute (.Name x np) "append" ap) [e] [] pos) p) D σ H := by
  unfold nameB at hs
  simp only [Bool.and_eq_true, Bool.not_eq_true'] at hs
  obtain ⟨us, h1, h2⟩ := w.at'
  refine s_append o S hN hv w.fF h1 h2 hz h (fun F' H' us' g hF r => ?_) hs.1.1 hst hline hfew hpl hs.1.2 hs.2 hbase hsw
  exact kk us us' F' H' g (g.kp _ _ h1) ((S.grow g).own hF) ((w.grow g).set r)
theorem t_extend (o : Ok M X N sc k) (S : Stt M.K F H σ env) (w : Ow M.K F0 H0 F H l ds) (hN : At N i x) (hv : σ[i]? = some (some (.ref l))) (hz : ds.length + ds2.length < 100000) (h : XO M X e σ F H ds2)
    (kk : ∀ us us' F' H', Grow F H F' H' → H' l = some (.lst us) → Stt M.K F' (upd H' l (.lst us')) σ env → Ow M.K F0 H0 F' (upd H' l (.lst us')) l (ds ++ ds2) → D.nx σ (upd H' l (.lst us'))) (hs : nameB sc x = true)
    (hst : starEach [e] X.env = (false, eval e X.env) :: starEach [] X.env := by rfl) (hline : (ap.endLine == pos.line) = true := by rfl)
    (hfew : ((backTo pos (starEach [e] X.env)).all (fun x => !x.1) && (backToKw pos (keywordEach [] X.env)).all (fun x => x.1.isSome) && decide ([e].length + ([] : List Keyword).length + (if ([] : List Keyword).isEmpty then 0 else 1) < 30)) = true := by rfl)
    (hpl : (backTo pos (starEach [] X.env)).any (·.1) = false := by rfl)
    (hbase : attributeBase (.Name x np) "extend" X.env (eval (.Name x np) X.env) = eval (.Name x np) X.env := by rfl) (hsw : swapsWith (.Call (.Attribute (.Name x np) "extend" ap) [e] [] pos) none p.line X.env = pure false := by rfl) :
    W1 X (.Expr (.Call (.Attribute (.Name x np) "extend" ap) [e] [] pos) p) D σ H := by
  unfold nameB at hs
  simp only [Bool.and_eq_true, Bool.not_eq_true'] at hs
  obtain ⟨us, h1, h2⟩ := w.at'
  refine s_extend o S hN hv w.fF h1 h2 hz h (fun F' H' us' g hF r => ?_) hs.1.1 hst hline hfew hpl hs.1.2 hs.2 hbase hsw
  exact kk us us' F' H' g (g.kp _ _ h1) ((S.grow g).own hF) ((w.grow g).set r)
/-- xs.clear() -/
theorem t_clear (o : Ok M X N sc k) (S : Stt M.K F H σ env) (w : Ow M.K F0 H0 F H l ds) (hN : At N i x) (hv : σ[i]? = some (some (.ref l))) (kk : Stt M.K F (upd H l (.lst [])) σ env → Ow M.K F0 H0 F (upd H l (.lst [])) l [] → D.nx σ (upd H l (.lst []))) (hs : nameB sc x = true)
    (hline : (ap.endLine == pos.line) = true := by rfl)
    (hbase : attributeBase (.Name x np) "clear" X.env (eval (.Name x np) X.env) = eval (.Name x np) X.env := by rfl) (hsw : swapsWith (.Call (.Attribute (.Name x np) "clear" ap) [] [] pos) none p.line X.env = pure false := by rfl) :
    W1 X (.Expr (.Call (.Attribute (.Name x np) "clear" ap) [] [] pos) p) D σ H := by
  unfold nameB at hs
  simp only [Bool.and_eq_true, Bool.not_eq_true'] at hs
  obtain ⟨us, h1, h2⟩ := w.at'
  refine s_expr (WE.of (pe_bm0 PySem.F.plainAttrs_list PySem.F.slot_list_clear PySem.F.type_list_clear mt_clear WE.pe hbase hline) ?_) hsw
  refine we_slot o.toOk0 i hv ?_ hN.get hs.1.1 hs.1.2 hs.2
  exact ⟨.inl ⟨rfl, _, by rw [o.eK]; exact SqL.of h1⟩, l, us, rfl, rfl, h1, kk (S.own w.fF) (w.set .nil)⟩
/-! ### tuples put together and cut, any of them -/
theorem x_catT (o : Ok0 M X N sc) (ha : XD M X a σ F H (.tuple ds1)) (hb : XD M X b σ F H (.tuple ds2)) (h : ds1.length + ds2.length ≤ 100000) : XD M X (.BinOp a .Add b pos) σ F H (.tuple (ds1 ++ ds2)) := by
  refine ⟨fun F1 H1 g Q q => ?_⟩
  refine WE.of (pe_op op_catA WE.pe WE.pe) ?_
  refine ha.run F1 H1 g _ fun x F2 H2 g2 r2 => ?_
  refine hb.run F2 H2 (g.trans g2) _ fun y F3 H3 g3 r3 => ?_
  have r2' := r2.mono g3.ex
  cases r2' with
  | tup t1 s1 =>
    rename_i c1 xs1
    cases r3 with
    | tup t2 s2 =>
      rename_i c2 xs2
      refine ⟨_, _, _, _, rfl, rfl, by rw [o.eK]; exact sqt_mono g3.le t1, by rw [o.eK]; exact sqt_mono g3.le t2, by rw [s1.len, s2.len]; exact Nat.le_trans h (by decide), fun z => ?_, fun _ z => ?_, fun _ _ l hl => ?_⟩
      · have e1 : ds1 = [] := by
          have := s1.len
          rw [z] at this
          exact List.eq_nil_of_length_eq_zero this.symm
        rw [e1, List.nil_append] at q
        exact q _ F3 H3 (g2.trans g3) (.tup t2 s2)
      · have e2 : ds2 = [] := by
          have := s2.len
          rw [z] at this
          exact List.eq_nil_of_length_eq_zero this.symm
        rw [e2, List.append_nil] at q
        exact q _ F3 H3 (g2.trans g3) (.tup t1 s1)
      · have gA := Grow.add (o := .tup (xs1 ++ xs2)) g3.le hl
        exact q _ _ _ ((g2.trans g3).trans gA) (.tup (SqT.of upd_same) ((s1.app s2).mono gA.ex))
theorem cutD_whole (h1 : HT.sIx ds.length 0 vlo = 0) (h2 : HT.sIx ds.length ds.length vhi = ds.length) : cutD ds vlo vhi = ds := by
  unfold cutD
  rw [h1, h2]
  simp
theorem x_cutT (o : Ok0 M X N sc) (ha : XD M X a σ F H (.tuple ds)) (hl : XP M X σ F H lo vlo) (hh : XP M X σ F H hi vhi) : XD M X (.Subscript a (.Slice lo hi none p2) pos) σ F H (.tuple (cutD ds vlo vhi)) := by
  obtain ⟨tl, th, pl, ph, run⟩ := parts_run hl hh
  refine ⟨fun F1 H1 g Q q => ?_⟩
  refine WE.of (pe_slice sl_tupA WE.pe pl ph) ?_
  refine ha.run F1 H1 g _ fun y F2 H2 g2 r2 => ?_
  refine run F2 H2 (g.trans g2) _ fun F3 H3 g3 => ?_
  cases r2 with
  | tup h s =>
    rename_i c xs
    refine ⟨_, _, rfl, by rw [o.eK]; exact sqt_mono g3.base h, fun hw => ?_, fun hw l hl => ?_⟩
    · rw [s.len] at hw
      rw [cutD_whole hw.1 hw.2] at q
      exact q _ F3 H3 (g2.trans g3) (.tup (sqt_mono g3.ex h) (s.mono g3.ex))
    · have gA := Grow.add (o := .tup (cutV xs vlo vhi)) g3.le hl
      exact q _ _ _ ((g2.trans g3).trans gA) (.tup (SqT.of upd_same) (cut_dns (s.mono (g3.ex.trans gA.ex))))
/-! ### x in a list -/
theorem units65 {k : Nat} {A : Around} (r : Room k A) : A.units + 65 < cLine := by have := r.un; omega
theorem b_inL (o : Ok M X N sc k) (ha : XH M X a σ F H d) (hb : XH M X b σ F H (.list ds)) (p1 : Pl d) (p2 : Pl (.list ds)) (hm : behindInMarks .In b = false := by rfl) : XB M X (.Compare a [.In] [b] pos) σ F H (ds.any fun z => PyData.eqv z d) :=
  b_cmp (op_inD (units65 o.room)) hm ha hb fun x y F1 H1 g rx ry Q q => ⟨d, ds, by rw [o.eK]; exact rx.dp p1.can, by rw [o.eK]; exact ry.dp p2.can, p1, p2, q F1 H1 (Grow.refl g.le)⟩
theorem x_inL (o : Ok M X N sc k) (ha : XH M X a σ F H d) (hb : XH M X b σ F H (.list ds)) (p1 : Pl d) (p2 : Pl (.list ds)) (hm : behindInMarks .In b = false := by rfl) : XD M X (.Compare a [.In] [b] pos) σ F H (.bool (ds.any fun z => PyData.eqv z d)) :=
  x_cmp (op_inD (units65 o.room)) hm ha hb fun x y F1 H1 g rx ry Q q => ⟨d, ds, by rw [o.eK]; exact rx.dp p1.can, by rw [o.eK]; exact ry.dp p2.can, p1, p2, q F1 H1 (Grow.refl g.le)⟩
theorem b_ninL (o : Ok M X N sc k) (ha : XH M X a σ F H d) (hb : XH M X b σ F H (.list ds)) (p1 : Pl d) (p2 : Pl (.list ds)) (hm : behindInMarks .NotIn b = false := by rfl) : XB M X (.Compare a [.NotIn] [b] pos) σ F H (!ds.any fun z => PyData.eqv z d) :=
  b_cmp (op_notInD (units65 o.room)) hm ha hb fun x y F1 H1 g rx ry Q q => ⟨d, ds, by rw [o.eK]; exact rx.dp p1.can, by rw [o.eK]; exact ry.dp p2.can, p1, p2, q F1 H1 (Grow.refl g.le)⟩
/-! ### a, b, c = t -/
theorem t_unpack3 {x1 x2 x3 : Str} {i1 i2 i3 c : Nat} {d1 d2 d3 : PyData} {p1 p2 p3 pt : Pos} (o : Ok M X N sc k) (fs : Fs X) (S : Stt M.K F H σ env) (h1 : At N i1 x1) (h2 : At N i2 x2) (h3 : At N i3 x3) (h : XD M X e σ F H (.tuple [d1, d2, d3]))
    (kk : ∀ v1 v2 v3 F' H', Grow F H F' H' → Stt M.K F' H' (((σ.set i1 (some v1)).set i2 (some v2)).set i3 (some v3)) (((env.set i1 (some d1)).set i2 (some d2)).set i3 (some d3)) → D.nx (((σ.set i1 (some v1)).set i2 (some v2)).set i3 (some v3)) H')
    (l1 : locB sc x1 = true) (l2 : locB sc x2 = true) (l3 : locB sc x3 = true) (hs : swapsWithSole [.Tuple [.Name x1 p1, .Name x2 p2, .Name x3 p3] c pt] e pos.line X.env = pure false := by rfl) (hw : swappedStores [.Tuple [.Name x1 p1, .Name x2 p2, .Name x3 p3] c pt] e X.env = pure none := by rfl) :
    W1 X (.Assign [.Tuple [.Name x1 p1, .Name x2 p2, .Name x3 p3] c pt] e pos) D σ H := by
  have hx : ∀ {y : Str}, locB sc y = true → L2.Loc X.env.scope y := fun h => by
    rw [o.eS]
    exact loc_of h
  have nd : X.N.Nodup := by rw [o.eN]; exact o.nd
  have g1 : PG X (.Name x1 p1) (gName i1) := pg_name nd (by rw [o.eN]; exact h1.get) (hx l1) (.inl (fs.fn x1))
  have g2 : PG X (.Name x2 p2) (gName i2) := pg_name nd (by rw [o.eN]; exact h2.get) (hx l2) (.inl (fs.fn x2))
  have g3 : PG X (.Name x3 p3) (gName i3) := pg_name nd (by rw [o.eN]; exact h3.get) (hx l3) (.inl (fs.fn x3))
  refine W1.of (ps_asg WE.pe (pg_tup o.calm (pgs_cons g1 (pgs_cons g2 (pgs_cons g3 pgs_nil)))) hs hw) ?_
  refine h.run F H (Grow.refl S.le) _ fun v F' H' g r => ?_
  cases r with
  | tup ht s =>
    cases s with
    | cons r1 s =>
      cases s with
      | cons r2 s =>
        cases s with
        | cons r3 s =>
          cases s
          refine ⟨_, _, rfl, by rw [o.eK]; exact sqt_mono g.le ht, rfl, _, _, rfl, _, _, rfl, _, _, rfl, rfl, ?_⟩
          exact kk _ _ _ F' H' g ((((S.grow g).set r1).set r2).set r3)
/-- a bare call of a def that may refuse: on, or out -/
theorem s_must {X : Cx} {N : List Str} {sc : Scope} {k j : Nat} {σ : L2.St} {env : List (Option PyData)} {F H : Hp} {ds : List PyData} {e : Expr} {es : List Expr} {D : Ends} {pos p pos2 : Pos} {x : Str} {E : XK} {R : List PyData → Out → Prop} {r : Out}
    (o : Ok M X N sc k) (tk : Takes X (fun cls d _ H => E cls d H)) (S : Stt M.K F H σ env) (fc : Fc M (L2.CX M.P M.w) x j (spG M.K R)) (ha : XA M X (e :: es) σ F H ds) (hr : R ds r) (hj : j ≤ k) (hg : sc.names.lookup x = some .globalImplicit) (hdb : (x == ("__debug__" : Str)) = false)
    (kk : EndsIn M (fun cls d _ H => E cls d H) σ F H (fun _ H' => D.nx σ H') r) (he : starEach (e :: es) X.env = (false, eval e X.env) :: starEach es X.env := by rfl) (hpl : (backTo pos (starEach es X.env)).any (·.1) = false := by rfl)
    (hs : swapsWith (.Call (.Name x p) (e :: es) [] pos) none pos2.line X.env = pure false := by rfl) : W1 X (.Expr (.Call (.Name x p) (e :: es) [] pos) pos2) D σ H :=
  s_expr (x_callX o fc tk S.le ha hr kk hj hg hdb he hpl) hs
end
end Lay

/-! Lay8: sorted of data of any depth; a text so many times. -/
namespace Lay
open PySem PySem.Spec PyProof.Rows PySem.W L2

/-! ### sorted(xs), xs a list of alike data -/
def rSortedN (K : PySem.W.Frag) : List V → Hp → VK → Prop := fun vs H Q => ∃ (F : Hp) (a : Addr) (xs : List V) (bs : List PyData), vs = [V.ref a] ∧ SqL K H a xs ∧ Same F H ∧ Dns K F xs bs ∧ AllAlike bs ∧ Sortable bs ∧ (∀ b, b ∈ bs → b.canLay0 = true ∧ b.depth ≤ 60) ∧
  ∀ ys p, Dns K F ys (bs.mergeSort (dataLe false id)) → H p = none → Q (.ref p) (upd H p (.lst ys))
section
variable {X : Cx}
theorem dns_each {K : PySem.W.Frag} {F : Hp} : ∀ {xs : List V} {us : List Value} {bs : List PyData}, Vals xs us → Dns K F xs bs → EachIs (fun u d => ∃ v, RelV v u ∧ Dn K F v d) us bs
  | [], _, _, .nil, .nil => .nil
  | _ :: _, _, _, .cons r t, .cons d e => .cons ⟨_, r, d⟩ (dns_each t e)
theorem each_dns {K : PySem.W.Frag} {F : Hp} : ∀ {us : List Value} {bs : List PyData}, EachIs (fun u d => ∃ v, RelV v u ∧ Dn K F v d) us bs → ∃ xs, Vals xs us ∧ Dns K F xs bs
  | _, _, .nil => ⟨[], .nil, .nil⟩
  | _, _, .cons ⟨v, r, d⟩ t => by
    obtain ⟨xs, h1, h2⟩ := each_dns t
    exact ⟨v :: xs, .cons r h1, .cons d h2⟩
theorem each_imp {α β : Type} {R T : α → β → Prop} : ∀ {us : List α} {bs : List β}, EachIs R us bs → (∀ u b, b ∈ bs → R u b → T u b) → EachIs T us bs
  | _, _, .nil, _ => .nil
  | _, _, .cons r t, h => .cons (h _ _ List.mem_cons_self r) (each_imp t fun u b hb => h u b (List.mem_cons_of_mem _ hb))
theorem cr_sortedN (hu : X.A.units + 64 < cLine) : CallR X (.builtin "sorted") (rSortedN X.K) := by
  intro pins s σ H vs us Q I r h
  obtain ⟨F, a, xs, bs, rfl, hs, le, hd, hal, hk, hb, q⟩ := h
  obtain ⟨its, rv, hl, hz⟩ := I.list hs
  rw [Vals.ref1 r]
  have hlen := hd.len
  have e1 := dns_each rv hd
  refine sorted_data (enc := id) (bs := bs) hl.isList e1 ?_ (by rw [List.map_id]; exact hal) (by rw [List.map_id]; exact hk) (by rw [← hlen]; exact hz) (fun b m => ?_) fun out h1 h2 => ?_
  · refine each_imp e1 fun u b m h => ?_
    obtain ⟨v, rr, dd⟩ := h
    exact Dp.reads I b v u ((dd.mono le).dp (hb b m).1) rr
  · have := (hb b m).2
    show X.A.units + 2 + b.depth < cLine
    omega
  · obtain ⟨ys, h3, h4⟩ := each_dns h2
    obtain ⟨ep, he'⟩ := PyProof.Rows.sortedAll_at s.heap its out.toArray
    have hl2 : ys.length ≤ sizeLine := by
      rw [h3.length, h1, ← hlen]
      exact hz
    exact ⟨.ref _, upd H (s.heap.objs.size + 1) (.lst ys), I.laid (t' := s.toks) (fun _ _ => PyProof.Rows.sortedAll_old) (Nat.le_succ _) ⟨hl2, out, ep, h3, he'⟩, rfl, q ys _ h4 (I.hok.fresh (Nat.le_succ _))⟩
end
section
variable {M : Md} {X : Cx} {N : List Str} {sc : Scope} {k j : Nat} {σ : L2.St} {F H : Hp} {bs : List PyData} {e a b : Expr} {pos p : Pos}
theorem o_sortedD (o : Ok M X N sc k) (hm : M.mg "sorted" = none) (ha : XD M X e σ F H (.list bs)) (hal : AllAlike bs) (hk : Sortable bs) (hb : ∀ b, b ∈ bs → b.canLay0 = true ∧ b.depth ≤ 60) (hg : sc.names.lookup ("sorted" : Str) = some .globalImplicit)
    (he : starEach (e :: []) X.env = (false, eval e X.env) :: starEach [] X.env := by rfl) (hpl : (backTo pos (starEach [] X.env)).any (·.1) = false := by rfl) : XO M X (.Call (.Name "sorted" p) [e] [] pos) σ F H (bs.mergeSort (dataLe false id)) :=
  o_callB o.toOk0 (cr_sortedN o.room.units) hm PyProof.Rows.boot_sorted (a_cons ha a_nil he) (fun vs F1 H1 g r Q q => by
    rw [o.eK]
    cases r with
    | cons h t =>
      cases t
      cases h with
      | lst hl s =>
        refine ⟨F1, _, _, bs, rfl, SqL.of (g.le _ _ hl), g.le, s, hal, hk, hb, fun ys l r hl' => ?_⟩
        exact q l ys F1 _ (Grow.own g.le hl') (g.le.free hl') hl' upd_same r) hg (by decide +kernel) (by decide +kernel) he hpl
/-! ### rows of whole numbers -/
abbrev tI (ns : List Int) : PyData := .tuple (ns.map PyData.int)
theorem alike_tI (n : Nat) {xs ys : List Int} : alike (tI xs) (tI ys) = true := by
  show alikeAll (xs.map .int) (ys.map .int) = true
  exact alike_ints xs ys
theorem allAlike_tI (rows : List (List Int)) : AllAlike (rows.map tI) := AllAlike.of fun _ _ => alike_tI 0
theorem sortable_tI {rows : List (List Int)} (h : ∀ r, r ∈ rows → r ≠ []) : Sortable (rows.map tI) := .inl fun d hd => by
  obtain ⟨r, hr, rfl⟩ := List.mem_map.mp hd
  cases r with
  | nil => exact absurd rfl (h _ hr)
  | cons x r => exact ⟨_, _, rfl⟩
theorem can_ints (ns : List Int) : PyData.canLayAll0 (ns.map PyData.int) = true ∧ PyData.depthAll (ns.map PyData.int) = 0 := flat_can fun d hd => by
  obtain ⟨n, _, rfl⟩ := List.mem_map.mp hd
  rfl
theorem can_tI (ns : List Int) : (tI ns).canLay0 = true ∧ (tI ns).depth ≤ 60 := by
  obtain ⟨h1, h2⟩ := can_ints ns
  refine ⟨h1, ?_⟩
  show PyData.depthAll (ns.map PyData.int) + 1 ≤ 60
  rw [h2]
  decide
theorem le_tI (xs ys : List Int) : dataLe false id (tI xs) (tI ys) = decide (xs ≤ ys) := by
  have h := congrFun (congrFun (dataLe_rows (id : List Int → List Int)) xs) ys
  rw [dataLe_eq] at h ⊢
  exact h
/-- the rows in order -/
def srtR (rows : List (List Int)) : List (List Int) := rows.mergeSort fun a b => decide (a ≤ b)
theorem sort_tI (rows : List (List Int)) : (rows.map tI).mergeSort (dataLe false id) = (srtR rows).map tI :=
  (List.map_mergeSort fun a _ b _ => (le_tI a b).symm).symm
theorem srtR_perm (rows : List (List Int)) : (srtR rows).Perm rows := List.mergeSort_perm _ _
theorem srtR_up (rows : List (List Int)) : (srtR rows).Pairwise (· ≤ ·) := by
  have h := List.pairwise_mergeSort (le := fun x y : List Int => decide (x ≤ y)) (fun a b c h1 h2 => by
    simp only [decide_eq_true_eq] at *
    exact List.le_trans h1 h2) (fun a b => by
    simp only [Bool.or_eq_true, decide_eq_true_eq]
    exact List.le_total a b) rows
  exact h.imp fun h => of_decide_eq_true h
theorem srt_rows_the {rows a b : List (List Int)} (pa : a.Perm rows) (sa : a.Pairwise (· ≤ ·)) (pb : b.Perm rows) (sb : b.Pairwise (· ≤ ·)) : a = b := List.Perm.eq_of_pairwise (le := (· ≤ ·)) (fun x y _ _ h1 h2 => List.le_antisymm h1 h2) sa sb (pa.trans pb.symm)
theorem srtR_eq {rows due : List (List Int)} (h : due.Perm rows) (s : due.Pairwise (· ≤ ·)) : srtR rows = due := srt_rows_the (srtR_perm rows) (srtR_up rows) h s
theorem srtR_congr {a b : List (List Int)} (h : a.Perm b) : srtR a = srtR b := srtR_eq ((srtR_perm b).trans h.symm) (srtR_up b)
/-- sorted of a list of rows of whole numbers -/
theorem o_sortedT {rows : List (List Int)} (o : Ok M X N sc k) (hm : M.mg "sorted" = none) (ha : XD M X e σ F H (.list (rows.map tI))) (hr : ∀ r, r ∈ rows → r ≠ []) (hg : sc.names.lookup ("sorted" : Str) = some .globalImplicit)
    (he : starEach (e :: []) X.env = (false, eval e X.env) :: starEach [] X.env := by rfl) (hpl : (backTo pos (starEach [] X.env)).any (·.1) = false := by rfl) : XO M X (.Call (.Name "sorted" p) [e] [] pos) σ F H ((srtR rows).map tI) :=
  XO.to (o_sortedD o hm ha (allAlike_tI rows) (sortable_tI hr) (fun b hb => by
    obtain ⟨r, _, rfl⟩ := List.mem_map.mp hb
    exact can_tI r) hg he hpl) (sort_tI rows)
/-! ### a text so many times -/
def rMulS : R2 := fun x y H Q => ∃ (z : Str) (n : Nat), x = .str z ∧ y = .int (n : Int) ∧ 1 ≤ n ∧ n ≤ 1000 ∧ z.length ≤ 1000 ∧ Q (.str ⟨((List.replicate n z.cps.toList).flatten).toArray⟩) H
theorem foldl_repS (a : Array Nat) : ∀ (m : Nat) (acc : List Nat), (List.replicate m a).foldl (· ++ ·) acc.toArray = (acc ++ (List.replicate m a.toList).flatten).toArray
  | 0, acc => by simp
  | m + 1, acc => by
    show (List.replicate m a).foldl (· ++ ·) (acc.toArray ++ a) = _
    have e : acc.toArray ++ a = (acc ++ a.toList).toArray := by
      apply Array.toList_inj.mp
      simp
    rw [e, foldl_repS a m (acc ++ a.toList), List.replicate_succ, List.flatten_cons, List.append_assoc]
theorem op_mulS {X : Cx} : OpR X (binaryOp .Mult) rMulS := by
  intro pins s σ H x y v u Q I rx ry h
  obtain ⟨z, n, rfl, rfl, h1, h2, hz, q⟩ := h
  obtain ⟨t, rfl⟩ := rx
  obtain ⟨t', rfl⟩ := ry
  have hzz : z.cps.size ≤ 1000 := hz
  have hmul : z.length * n ≤ 1000 * 1000 := Nat.mul_le_mul hz h2
  refine PySem.P.mul_str ?_ (fun _ _ => ?_) (fun _ _ => ?_) ?_
  · have a1 : ¬ ((n : Int) < -(2 ^ 63 : Int)) := by omega
    have a2 : ¬ ((n : Int) ≥ 2 ^ 63) := by omega
    rw [decide_eq_false a1, decide_eq_false a2]
    rfl
  · have h3 : (9223372036854775807 : Int) / 1000 ≤ (2 ^ 63 - 1) / (n : Int) := by
      refine Int.le_ediv_of_mul_le (by omega) ?_
      have : (9223372036854775807 : Int) / 1000 = 9223372036854775 := by decide
      rw [this]
      omega
    have h4 : (9223372036854775807 : Int) / 1000 = 9223372036854775 := by decide
    rw [h4] at h3
    have : ((z.length : Nat) : Int) ≤ 1000 := by omega
    omega
  · show decide (z.length * ((n : Int)).toNat > sizeLine) = false
    rw [Int.toNat_natCast]
    exact decide_eq_false (Nat.not_lt.mpr (Nat.le_trans hmul (by decide)))
  · rw [if_neg (show ¬ ((n : Int) < 1) by omega)]
    have e0 : (List.replicate ((n : Int)).toNat z.cps).foldl (· ++ ·) #[] = ((List.replicate n z.cps.toList).flatten).toArray := by
      rw [Int.toNat_natCast]
      have := foldl_repS z.cps n []
      rw [List.nil_append] at this
      exact this
    by_cases hc : ((n : Int) == 1 || z.length == 0) = true
    · rw [if_pos hc]
      have e1 : (⟨((List.replicate n z.cps.toList).flatten).toArray⟩ : Str) = z := by
        simp only [Bool.or_eq_true, beq_iff_eq] at hc
        rcases hc with hc | hc
        · have : n = 1 := by omega
          subst this
          simp
        · have : z.cps = #[] := Array.eq_empty_of_size_eq_zero hc
          have e2 : z.cps.toList = [] := by rw [this]
          rw [e2]
          have e3 : (List.replicate n ([] : List Nat)).flatten = [] := by simp
          rw [e3]
          cases z with
          | mk c =>
            simp only at this
            rw [this]
      refine ⟨.str z, H, I, ⟨t, rfl⟩, ?_⟩
      rw [e1] at q
      exact q
    · rw [if_neg hc, e0]
      have hl : (⟨((List.replicate n z.cps.toList).flatten).toArray⟩ : Str).length ≤ sizeLine := by
        show ((List.replicate n z.cps.toList).flatten).toArray.size ≤ sizeLine
        rw [List.size_toArray, List.length_flatten, List.map_replicate, List.sum_replicate_nat, Array.length_toList]
        have : n * z.cps.size ≤ 1000 * 1000 := Nat.mul_le_mul h2 hzz
        exact Nat.le_trans this (by decide)
      exact ⟨hl, .str _, H, I.tok _, ⟨_, rfl⟩, q⟩
theorem x_mulS {z : Str} {n : Nat} (ha : XD M X a σ F H (.str z)) (hb : XD M X b σ F H (.int (n : Int))) (h1 : 1 ≤ n) (h2 : n ≤ 1000) (hz : z.length ≤ 1000) : XD M X (.BinOp a .Mult b pos) σ F H (.str ⟨((List.replicate n z.cps.toList).flatten).toArray⟩) :=
  x_bin op_mulS ha hb fun x y F1 H1 g rx ry Q q => by
    cases rx
    cases ry
    exact ⟨z, n, rfl, rfl, h1, h2, hz, q _ F1 H1 (Grow.refl g.le) (.str _)⟩
end
end Lay

/-! Die: how a die lies and rolls, in plain Lean. Letters of rolls are their codes: 101 e, 110 n, 115 s, 119 w (any other one is taken as w). -/
namespace Die
abbrev L3 := Int × Int × Int
def pr (z : Int) : Int := ([0, 1, 2, 3, 3, 2, 1] : List Int).getD z.toNat 0
/-- how many in front of place p are greater -/
def gr (row : List Int) (p : Nat) : Nat := ((row.take p).filter fun n => decide (row.getD p 0 < n)).length
def disC (row : List Int) : Nat → Nat
  | 0 => 0
  | p + 1 => disC row p + gr row p
def dis (row : List Int) : Int := (disC row row.length : Int) % 2
def inR (z : Int) : Bool := decide (1 ≤ z) && decide (z ≤ 6)
def prs (l : L3) : List Int := [pr l.1, pr l.2.1, pr l.2.2]
def lst (l : L3) : List Int := [l.1, l.2.1, l.2.2]
def great (l : L3) : Nat := ((lst l).filter fun n => decide (3 < n)).length
def isLie (l : L3) : Bool := inR l.1 && inR l.2.1 && inR l.2.2 && decide ((prs l).Perm [1, 2, 3]) && decide ((great l : Int) % 2 = dis (prs l))
def roll (l : L3) (c : Nat) : L3 :=
  if c = 110 then (7 - l.2.1, l.1, l.2.2) else if c = 115 then (l.2.1, 7 - l.1, l.2.2) else if c = 101 then (7 - l.2.2, l.2.1, l.1) else (l.2.2, l.2.1, 7 - l.1)
def rolled (l : L3) (cs : List Nat) : L3 := cs.foldl roll l
def first : L3 := (1, 2, 3)
theorem rolled_app (l : L3) (a b : List Nat) : rolled l (a ++ b) = rolled (rolled l a) b := List.foldl_append
/-- the numbers 1 to 6 -/
def six : List Int := [1, 2, 3, 4, 5, 6]
theorem mem_six {z : Int} (h : inR z = true) : z ∈ six := by
  unfold inR at h
  simp only [Bool.and_eq_true, decide_eq_true_eq] at h
  unfold six
  simp only [List.mem_cons, List.not_mem_nil, or_false]
  omega
theorem inR_of {z : Int} (h : inR z = true) : 1 ≤ z ∧ z ≤ 6 := by
  unfold inR at h
  simpa using h
def all216 : List L3 := six.flatMap fun a => six.flatMap fun b => six.map fun c => (a, b, c)
def lies : List L3 := all216.filter isLie
theorem lie_in {l : L3} (h : isLie l = true) : inR l.1 = true ∧ inR l.2.1 = true ∧ inR l.2.2 = true := by
  unfold isLie at h
  simp only [Bool.and_eq_true] at h
  exact ⟨h.1.1.1.1, h.1.1.1.2, h.1.1.2⟩
theorem mem_lies {l : L3} : l ∈ lies ↔ isLie l = true := by
  unfold lies
  rw [List.mem_filter]
  refine ⟨fun h => h.2, fun h => ⟨?_, h⟩⟩
  obtain ⟨h1, h2, h3⟩ := lie_in h
  unfold all216
  refine List.mem_flatMap.mpr ⟨l.1, mem_six h1, List.mem_flatMap.mpr ⟨l.2.1, mem_six h2, List.mem_map.mpr ⟨l.2.2, mem_six h3, rfl⟩⟩⟩
/-- what holds of the twenty-four holds of every right lie -/
theorem of_all (P : L3 → Bool) (h : lies.all P = true) {l : L3} (hl : isLie l = true) : P l = true := List.all_eq_true.mp h l (mem_lies.mpr hl)
def lies24 : List L3 := [(1, 2, 3), (1, 3, 5), (1, 4, 2), (1, 5, 4), (2, 1, 4), (2, 3, 1), (2, 4, 6), (2, 6, 3), (3, 1, 2), (3, 2, 6), (3, 5, 1), (3, 6, 5), (4, 1, 5), (4, 2, 1), (4, 5, 6), (4, 6, 2), (5, 1, 3), (5, 3, 6), (5, 4, 1), (5, 6, 4), (6, 2, 4), (6, 3, 2), (6, 4, 5), (6, 5, 3)]
theorem lies_eq : lies = lies24 := by decide +kernel
theorem roll_right {l : L3} (h : isLie l = true) (c : Nat) : isLie (roll l c) = true := by
  have e : ∀ c ∈ ([110, 115, 101, 119] : List Nat), isLie (roll l c) = true := fun c hc =>
    List.all_eq_true.mp (of_all (fun l => ([110, 115, 101, 119] : List Nat).all fun c => isLie (roll l c)) (by decide +kernel) h) c hc
  by_cases h1 : c = 110
  · exact e c (by simp [h1])
  by_cases h2 : c = 115
  · exact e c (by simp [h2])
  by_cases h3 : c = 101
  · exact e c (by simp [h3])
  have e4 := e 119 (by simp)
  unfold roll at e4 ⊢
  rw [if_neg h1, if_neg h2, if_neg h3]
  exact e4
theorem rolled_right : ∀ (cs : List Nat) {l : L3}, isLie l = true → isLie (rolled l cs) = true
  | [], _, h => h
  | c :: cs, _, h => rolled_right cs (roll_right h c)
theorem first_right : isLie first = true := by decide +kernel
/-- two places changed about: wrong -/
theorem swap12 {l : L3} (h : isLie l = true) : isLie (l.2.1, l.1, l.2.2) = false := by
  have := of_all (fun l => !isLie (l.2.1, l.1, l.2.2)) (by decide +kernel) h
  simpa using this
theorem swap23 {l : L3} (h : isLie l = true) : isLie (l.1, l.2.2, l.2.1) = false := by
  have := of_all (fun l => !isLie (l.1, l.2.2, l.2.1)) (by decide +kernel) h
  simpa using this
theorem swap13 {l : L3} (h : isLie l = true) : isLie (l.2.2, l.2.1, l.1) = false := by
  have := of_all (fun l => !isLie (l.2.2, l.2.1, l.1)) (by decide +kernel) h
  simpa using this
/-! ### turns, one behind the other -/
/-- where the number n is seen in the first lie -/
def sd (n : Int) : Int := if n = 1 then 0 else if n = 2 then 1 else if n = 3 then 2 else if n = 6 then 3 else if n = 5 then 4 else 5
def sn (l : L3) (p : Int) : Int := if p = 0 then l.1 else if p = 1 then l.2.1 else if p = 2 then l.2.2 else if p = 3 then 7 - l.1 else if p = 4 then 7 - l.2.1 else 7 - l.2.2
def se (l : L3) (n : Int) : Int := sn l (sd n)
def beh (l o : L3) : L3 := (se l o.1, se l o.2.1, se l o.2.2)
theorem se_flip (l : L3) {n : Int} (h : inR n = true) : se l (7 - n) = 7 - se l n := by
  obtain ⟨h1, h2⟩ := inR_of h
  have : n = 1 ∨ n = 2 ∨ n = 3 ∨ n = 4 ∨ n = 5 ∨ n = 6 := by omega
  rcases this with rfl | rfl | rfl | rfl | rfl | rfl <;> simp [se, sd, sn] <;> omega
theorem beh_roll (l : L3) {o : L3} (h : isLie o = true) (c : Nat) : beh l (roll o c) = roll (beh l o) c := by
  obtain ⟨h1, h2, h3⟩ := lie_in h
  unfold roll
  split
  · simp only [beh, se_flip l h2]
  split
  · simp only [beh, se_flip l h1]
  split
  · simp only [beh, se_flip l h3]
  · simp only [beh, se_flip l h1]
theorem beh_rolled (l : L3) : ∀ (cs : List Nat) {o : L3}, isLie o = true → beh l (rolled o cs) = rolled (beh l o) cs
  | [], _, _ => rfl
  | c :: cs, o, h => by
    show beh l (rolled (roll o c) cs) = rolled (roll (beh l o) c) cs
    rw [beh_rolled l cs (roll_right h c), beh_roll l h]
theorem beh_first (l : L3) : beh l first = l := rfl
theorem first_beh {l : L3} (h : isLie l = true) : beh first l = l := by
  have := of_all (fun l => decide (beh first l = l)) (by decide +kernel) h
  simpa using this
/-- the heart of it: a row behind a row -/
theorem beh_turns (a b : List Nat) : beh (rolled first a) (rolled first b) = rolled first (a ++ b) := by
  rw [beh_rolled _ b first_right, beh_first, rolled_app]
end Die

/-! Die2: how often a row leads back. -/
namespace Die
/-- a row leads to where the turn of it leads -/
theorem rolled_beh (l : L3) (cs : List Nat) : rolled l cs = beh l (rolled first cs) := (beh_rolled l cs first_right).symm
def itB (R : L3) : Nat → L3 → L3
  | 0, l => l
  | n + 1, l => beh (itB R n l) R
def tm (R : L3) : Nat := if R = first then 1 else if beh R R = first then 2 else if beh (beh R R) R = first then 3 else 4
theorem itB_succ (cs : List Nat) (n : Nat) (l : L3) : itB (rolled first cs) (n + 1) l = rolled (itB (rolled first cs) n l) cs := (rolled_beh _ cs).symm
theorem tm_pos (R : L3) : 1 ≤ tm R ∧ tm R ≤ 4 := by
  unfold tm
  split
  · omega
  split
  · omega
  split <;> omega
theorem tm_back {R : L3} (h : isLie R = true) {l : L3} (hl : isLie l = true) : itB R (tm R) l = l := by
  have h1 := of_all (fun R => lies.all fun l => decide (itB R (tm R) l = l)) (by decide +kernel) h
  have h2 := of_all (fun l => decide (itB R (tm R) l = l)) h1 hl
  simpa using h2
theorem tm_least {R : L3} (h : isLie R = true) {k : Nat} (h1 : 1 ≤ k) (h2 : k < tm R) : itB R k first ≠ first := by
  have hk := (tm_pos R).2
  have e := of_all (fun R => (List.range 4).all fun k => decide (1 ≤ k) && decide (k < tm R) → itB R k first ≠ first) (by decide +kernel) h
  have e2 := List.all_eq_true.mp e k (List.mem_range.mpr (by omega))
  simp only [decide_eq_true_eq, Bool.and_eq_true] at e2
  exact e2 ⟨h1, h2⟩
theorem tm_iff {R : L3} (h : isLie R = true) {k : Nat} (h1 : 1 ≤ k) (h2 : k ≤ tm R) : itB R k first = first ↔ k = tm R := by
  refine ⟨fun e => ?_, fun e => ?_⟩
  · by_cases hk : k < tm R
    · exact absurd e (tm_least h h1 hk)
    · omega
  · subst e
    exact tm_back h first_right
/-- rows of rolls whose letters are all such -/
def okR (cs : List Nat) : Bool := cs.all fun c => decide (c ∈ ([101, 110, 115, 119] : List Nat))
theorem okR_app (a b : List Nat) : okR (a ++ b) = (okR a && okR b) := List.all_append
/-- how the numbers of two rows of rolls, one so often, lie -/
theorem rolled_times (cs : List Nat) (l : L3) : ∀ n : Nat, rolled l ((List.replicate n cs).flatten) = itB (rolled first cs) n l
  | 0 => rfl
  | n + 1 => by
    rw [List.replicate_succ', List.flatten_append, rolled_app, rolled_times cs l n, itB_succ]
    simp
/-- all lies are led to, each once -/
theorem beh_inj {R l m : L3} (h : isLie R = true) (hl : isLie l = true) (hm : isLie m = true) (e : beh l R = beh m R) : l = m := by
  have h1 := of_all (fun R => lies.all fun l => lies.all fun m => decide (beh l R = beh m R → l = m)) (by decide +kernel) h
  have h2 := of_all (fun l => lies.all fun m => decide (beh l R = beh m R → l = m)) h1 hl
  have h3 := of_all (fun m => decide (beh l R = beh m R → l = m)) h2 hm
  exact of_decide_eq_true h3 e
theorem dis_roll {l : L3} (h : isLie l = true) (c : Nat) : dis (prs (roll l c)) = (dis (prs l) + 1) % 2 := by
  have e : ∀ c ∈ ([110, 115, 101, 119] : List Nat), dis (prs (roll l c)) = (dis (prs l) + 1) % 2 := fun c hc => by
    have := List.all_eq_true.mp (of_all (fun l => ([110, 115, 101, 119] : List Nat).all fun c => decide (dis (prs (roll l c)) = (dis (prs l) + 1) % 2)) (by decide +kernel) h) c hc
    simpa using this
  by_cases h1 : c = 110
  · exact e c (by simp [h1])
  by_cases h2 : c = 115
  · exact e c (by simp [h2])
  by_cases h3 : c = 101
  · exact e c (by simp [h3])
  have e4 := e 119 (by simp)
  unfold roll at e4 ⊢
  rw [if_neg h1, if_neg h2, if_neg h3]
  exact e4
theorem dis_two (row : List Int) : dis row = 0 ∨ dis row = 1 := by
  unfold dis
  omega
theorem dis_rolled : ∀ (cs : List Nat) {l : L3}, isLie l = true → dis (prs (rolled l cs)) = (dis (prs l) + (cs.length : Nat)) % 2
  | [], l, _ => by
    show dis (prs l) = (dis (prs l) + 0) % 2
    have := dis_two (prs l)
    omega
  | c :: cs, l, h => by
    show dis (prs (rolled (roll l c) cs)) = _
    rw [dis_rolled cs (roll_right h c), dis_roll h c, List.length_cons]
    have := dis_two (prs l)
    omega
theorem led_perm (cs : List Nat) : (lies24.map fun l => lst (rolled l cs)).Perm (lies24.map lst) := by
  have hR : isLie (rolled first cs) = true := rolled_right cs first_right
  have e : (lies24.map fun l => lst (rolled l cs)) = lies24.map fun l => lst (beh l (rolled first cs)) := List.map_congr_left fun l _ => by rw [rolled_beh]
  rw [e]
  have := of_all (fun R => decide ((lies24.map fun l => lst (beh l R)).Perm (lies24.map lst))) (by decide +kernel) hR
  exact of_decide_eq_true this
theorem lies_up : (lies24.map lst).Pairwise (· ≤ ·) := by decide +kernel
/-- both rows lead alike just where they do from the first lie -/
theorem alike_led (a b : List Nat) : (lies24.all fun l => decide (rolled l b = rolled l a)) = decide (rolled first a = rolled first b) := by
  by_cases h : rolled first a = rolled first b
  · rw [decide_eq_true h, List.all_eq_true]
    intro l _
    rw [rolled_beh l b, rolled_beh l a, h]
    exact decide_eq_true rfl
  · rw [decide_eq_false h]
    cases e : lies24.all fun l => decide (rolled l b = rolled l a) with
    | false => rfl
    | true =>
      have := List.all_eq_true.mp e first (by decide +kernel)
      exact absurd (of_decide_eq_true this).symm h
end Die

/-! Txts: texts by their codes; the draws. -/
namespace Roll
open PySem L2 Lay
/-- the text of codes -/
@[irreducible] def tx (cs : List Nat) : Str := ⟨cs.toArray⟩
theorem tx_codes (z : Str) : tx z.cps.toList = z := by
  unfold tx
  simp
theorem tx_list (cs : List Nat) : (tx cs).cps.toList = cs := by
  unfold tx
  simp
theorem tx_len (cs : List Nat) : (tx cs).length = cs.length := by
  unfold tx Str.length
  simp
theorem tx_app (a b : List Nat) : tx a ++ tx b = tx (a ++ b) := by
  unfold tx
  show (⟨a.toArray ++ b.toArray⟩ : Str) = ⟨(a ++ b).toArray⟩
  rw [List.append_toArray]
theorem tx_inj {a b : List Nat} (h : tx a = tx b) : a = b := by
  have := congrArg (fun z : Str => z.cps.toList) h
  simpa [tx] using this
theorem joinL_flat : ∀ ps : List (List Nat), TL.joinL [] ps = ps.flatten
  | [] => rfl
  | [p] => by simp [TL.joinL]
  | p :: q :: r => by
    show p ++ ([] ++ TL.joinL [] (q :: r)) = _
    rw [joinL_flat (q :: r)]
    simp
theorem join_signs (cs : List Nat) : Txt.join "" (cs.map fun c => (⟨#[c]⟩ : Str)) = tx cs := by
  rw [TL.join_eq, ← tx_codes (Str.join "" _)]
  apply congrArg tx
  show TL.tl (Str.join "" _) = cs
  rw [TL.tl_join]
  have e : TL.tl ("" : Str) = [] := by decide +kernel
  rw [e, joinL_flat, List.map_map]
  induction cs with
  | nil => rfl
  | cons c r ih =>
    simp only [List.map_cons, List.flatten_cons]
    rw [ih]
    rfl
abbrev scr (ns : List Int) : PyData := .dict [(.none, .list (ns.map PyData.int))]
/-- a cell of the script -/
def cellAt (ns : List Int) (k : Nat) : Int := ns.getD k 0
def mix (cell k : Int) : Int :=
  let m1 := (cell * 69621 + 7001 * k + 3) % 2147483629
  let m2 := (m1 * m1 + 39373 * m1 + k) % 2147483647
  (m2 * m2 + 16807 * m2 + 7 * k) % 2147483587
def letter (i : Int) : Nat := ([101, 110, 115, 119] : List Nat).getD i.toNat 0
/-- n drawn rolls -/
def rollsC (cell : Int) (n : Nat) : List Nat := (List.range n).map fun k : Nat => letter (mix cell (k : Int) / 7 % 4)
theorem ensw_list : ("ensw" : Str).cps.toList = [101, 110, 115, 119] := by decide +kernel
theorem ensw_at {i : Int} (h : 0 ≤ i ∧ i < 4) : atI ("ensw" : Str).cps.toList i = some (letter i) := by
  rw [ensw_list]
  have : i = 0 ∨ i = 1 ∨ i = 2 ∨ i = 3 := by omega
  rcases this with rfl | rfl | rfl | rfl <;> rfl
theorem mod4 (x : Int) : 0 ≤ x % 4 ∧ x % 4 < 4 := ⟨Int.emod_nonneg _ (by decide), Int.emod_lt_of_pos _ (by decide)⟩
theorem sign_n : ("n" : Str) = ⟨#[110]⟩ := by decide +kernel
theorem sign_s : ("s" : Str) = ⟨#[115]⟩ := by decide +kernel
theorem sign_e : ("e" : Str) = ⟨#[101]⟩ := by decide +kernel
theorem sign_w : ("w" : Str) = ⟨#[119]⟩ := by decide +kernel
theorem sign_eq (c d : Nat) : decide ((⟨#[c]⟩ : Str) = ⟨#[d]⟩) = decide (c = d) := by
  by_cases h : c = d
  · subst h
    simp
  · rw [decide_eq_false h, decide_eq_false]
    intro e
    have := congrArg (fun z : Str => z.cps.toList) e
    simp at this
    exact h this
theorem foldl_take {α β : Type} {f : α → β → α} {a : α} {l : List β} {i : Nat} {b : β} (h : l[i]? = some b) : (l.take (i + 1)).foldl f a = f ((l.take i).foldl f a) b := by
  rw [take_snoc h, List.foldl_append]
  rfl
end Roll
namespace Roll
open PySem L2 Lay
theorem tx_one (c : Nat) : tx [c] = ⟨#[c]⟩ := by
  unfold tx
  rfl
theorem tx_nil : tx [] = "" := by
  unfold tx
  decide +kernel
theorem cutS_to (cs : List Nat) (n : Nat) (h : n ≤ cs.length) : cutS (tx cs) none (some (n : Int)) = tx (cs.take n) := by
  unfold cutS
  rw [HT.sIx_none, HT.sIx_nat, tx_list, tx_len, Nat.min_eq_left h]
  unfold tx
  simp
theorem cutS_from (cs : List Nat) (n : Nat) (h : n ≤ cs.length) : cutS (tx cs) (some (n : Int)) none = tx (cs.drop n) := by
  unfold cutS
  rw [HT.sIx_none, HT.sIx_nat, tx_list, tx_len, Nat.min_eq_left h]
  unfold tx
  rw [List.take_of_length_le (by rw [List.length_drop]; exact Nat.le_refl _)]
theorem tx_size (cs : List Nat) : (tx cs).cps.size = cs.length := by
  have := tx_len cs
  unfold Str.length at this
  exact this
theorem tx_at {cs : List Nat} {i c : Nat} (h : (tx cs).cps[i]? = some c) : cs[i]? = some c := by
  have : (tx cs).cps.toList[i]? = some c := by simpa using h
  rwa [tx_list] at this
end Roll

/-! Flo: floors in plain Lean: rows of codes of signs, 46 a cell, 35 none. -/
namespace Flo
abbrev Rows := List (List Nat)
def isSign (c : Nat) : Bool := decide (c ∈ ([46, 35] : List Nat))
def wid (f : Rows) : Nat := (f.headD []).length
def okRow (n : Nat) (r : List Nat) : Bool := decide (1 ≤ r.length) && decide (r.length ≤ 8) && decide (r.length = n) && r.all isSign
def okF (f : Rows) : Bool := decide (1 ≤ f.length) && decide (f.length ≤ 8) && f.all (okRow (wid f))
def cellsN (f : Rows) : Int := (f.map fun r => ((r.count 46 : Nat) : Int)).sum
theorem okRow_len {n : Nat} {r : List Nat} (h : okRow n r = true) : r.length = n ∧ 1 ≤ r.length ∧ r.length ≤ 8 ∧ r.all isSign = true := by
  unfold okRow at h
  simp only [Bool.and_eq_true, decide_eq_true_eq] at h
  exact ⟨h.1.2, h.1.1.1, h.1.1.2, h.2⟩
theorem okF_of {f : Rows} (h : okF f = true) : 1 ≤ f.length ∧ f.length ≤ 8 ∧ ∀ r ∈ f, okRow (wid f) r = true := by
  unfold okF at h
  simp only [Bool.and_eq_true, decide_eq_true_eq] at h
  exact ⟨h.1.1, h.1.2, List.all_eq_true.mp h.2⟩
/-- whether all signs are such, by how many there are of either -/
theorem signs_count (r : List Nat) : (((r.count 46 : Nat) : Int) + ((r.count 35 : Nat) : Int) = ((r.length : Nat) : Int)) ↔ r.all isSign = true := by
  have h : ∀ r : List Nat, r.count 46 + r.count 35 ≤ r.length ∧ (r.count 46 + r.count 35 = r.length ↔ r.all isSign = true) := by
    intro r
    induction r with
    | nil => exact ⟨Nat.le_refl _, by simp⟩
    | cons c r ih =>
      obtain ⟨h1, h2⟩ := ih
      rw [List.count_cons, List.count_cons, List.length_cons, List.all_cons]
      by_cases e1 : c = 46
      · subst e1
        have : isSign 46 = true := by decide
        rw [this]
        simp only [Bool.true_and]
        refine ⟨by simp; omega, ?_⟩
        rw [← h2]
        simp
        omega
      · by_cases e2 : c = 35
        · subst e2
          have : isSign 35 = true := by decide
          rw [this]
          simp only [Bool.true_and]
          refine ⟨by simp; omega, ?_⟩
          rw [← h2]
          simp
          omega
        · have : isSign c = false := by
            unfold isSign
            simp [e1, e2]
          rw [this]
          simp [e1, e2]
          omega
  have := (h r).2
  rw [← this]
  omega
/-- what the law's own floor is -/
def fsign (b : Bool) : Nat := if b then 35 else 46
theorem fsign_sign (b : Bool) : isSign (fsign b) = true := by cases b <;> decide
theorem okF_rect {f : Rows} {n m : Nat} (h1 : f.length = n) (h2 : 1 ≤ n ∧ n ≤ 8) (h3 : 1 ≤ m ∧ m ≤ 8) (h : ∀ r ∈ f, r.length = m ∧ r.all isSign = true) : okF f = true ∧ wid f = m := by
  have hw : wid f = m := by
    cases f with
    | nil => simp at h1; omega
    | cons r t => exact (h r List.mem_cons_self).1
  refine ⟨?_, hw⟩
  unfold okF
  simp only [Bool.and_eq_true, decide_eq_true_eq]
  refine ⟨⟨by omega, by omega⟩, List.all_eq_true.mpr fun r hr => ?_⟩
  obtain ⟨a, b⟩ := h r hr
  unfold okRow
  rw [hw, b]
  simp only [Bool.and_eq_true, decide_eq_true_eq]
  exact ⟨⟨⟨by omega, by omega⟩, a⟩, trivial⟩
end Flo

/-! Cnt: how often a sign stands in a text. -/
namespace Roll
open PySem L2 Lay PySem.StrLaws Builtin Builtin.Str
theorem occ_size (x : Str) (c limit : Nat) : ∀ (n lo free : Nat) (arr : Array Nat), free ≤ lo → arr.size + n ≤ limit →
    (forIn (List.range' lo n) (arr, free) (occBody x ⟨#[c]⟩ x.length limit)).run.fst.size = arr.size + (List.range' lo n).countP fun i => decide (x.cps.toList[i]? = some c)
  | 0, lo, free, arr, _, _ => by simp
  | n + 1, lo, free, arr, hf, hl => by
    rw [List.range'_succ, List.forIn_cons, List.countP_cons]
    unfold occBody
    by_cases h : x.cps.toList[lo]? = some c
    · have hs := (subAt_one x c lo).mpr h
      rw [if_pos ⟨⟨⟨by show arr.size < limit; omega, hf⟩, hs.1⟩, hs.2⟩]
      have ih := occ_size x c limit n (lo + 1) (lo + 1) (arr.push lo) (Nat.le_refl _) (by rw [Array.size_push]; omega)
      rw [decide_eq_true h]
      show (forIn (List.range' (lo + 1) n) (arr.push lo, lo + 1) (occBody x ⟨#[c]⟩ x.length limit)).run.fst.size = _
      rw [ih, Array.size_push]
      simp
      omega
    · rw [if_neg (fun z => h ((subAt_one x c lo).mp ⟨z.1.2, z.2⟩))]
      have ih := occ_size x c limit n (lo + 1) free arr (Nat.le_succ_of_le hf) (by omega)
      rw [decide_eq_false h]
      show (forIn (List.range' (lo + 1) n) (arr, free) (occBody x ⟨#[c]⟩ x.length limit)).run.fst.size = _
      rw [ih]
      simp
theorem countP_at (c : Nat) : ∀ l : List Nat, ((List.range (l.length + 1)).countP fun i => decide (l[i]? = some c)) = l.count c
  | [] => by simp
  | a :: t => by
    have ih := countP_at c t
    rw [List.length_cons, List.range_succ_eq_map, List.countP_cons, List.countP_map, List.count_cons]
    have e : ((fun i => decide ((a :: t)[i]? = some c)) ∘ Nat.succ) = fun i => decide (t[i]? = some c) := by
      funext i
      simp
    rw [e, ih]
    by_cases h : a = c
    · simp [h]
    · simp [h]
theorem count_one (x : Str) (c : Nat) : Txt.count x ⟨#[c]⟩ = ((x.cps.toList.count c : Nat) : Int) := by
  unfold Txt.count
  rw [occ_eq]
  have h := occ_size x c (x.length + 1) (x.length + 1) 0 0 #[] (Nat.le_refl _) (by simp)
  have e : x.cps.toList.length = x.length := by simp [Str.length]
  have h2 := countP_at c x.cps.toList
  rw [e, List.range_eq_range'] at h2
  rw [h2] at h
  rw [Array.length_toList]
  have h3 : (forIn (List.range' 0 (x.length + 1 - 0)) ((#[] : Array Nat), 0) (occBody x ⟨#[c]⟩ x.length (x.length + 1))).run.fst.size = x.cps.toList.count c := by
    rw [Nat.sub_zero, h]
    simp
  rw [h3]
theorem count_tx (cs : List Nat) (c : Nat) : Txt.count (tx cs) ⟨#[c]⟩ = ((cs.count c : Nat) : Int) := by
  rw [count_one, tx_list]
theorem sign_dot : ("." : Str) = ⟨#[46]⟩ := by decide +kernel
theorem sign_hash : ("#" : Str) = ⟨#[35]⟩ := by decide +kernel
theorem signs_list : (".#" : Str).cps.toList = [46, 35] := by decide +kernel
/-! floors as data -/
abbrev tS (cs : List Nat) : PyData := .str (tx cs)
abbrev fl (f : Flo.Rows) : PyData := .list (f.map tS)
end Roll

/-! Sta: stands on floors, in plain Lean. -/
namespace Sta
open Flo Die
abbrev P2 := Int × Int
abbrev Sd := P2 × L3
def sgn (f : Rows) (i j : Nat) : Nat := (f.getD i []).getD j 0
def isCell (f : Rows) (p : P2) : Bool := decide (0 ≤ p.1) && decide (p.1 < (f.length : Nat)) && (decide (0 ≤ p.2) && decide (p.2 < (wid f : Nat))) && decide (sgn f p.1.toNat p.2.toNat = 46)
def stepC (c : Nat) : Option P2 := if c = 110 then some (-1, 0) else if c = 101 then some (0, 1) else if c = 115 then some (1, 0) else if c = 119 then some (0, -1) else none
def next (f : Rows) (s : Sd) (c : Nat) : Option Sd := match stepC c with
  | none => none
  | some d => if isCell f (s.1.1 + d.1, s.1.2 + d.2) = true then some ((s.1.1 + d.1, s.1.2 + d.2), roll s.2 c) else none
def walk (f : Rows) (s : Sd) : List Nat → Option Sd
  | [] => some s
  | c :: cs => (next f s c).bind fun t => walk f t cs
theorem walk_app (f : Rows) : ∀ (a b : List Nat) (s : Sd), walk f s (a ++ b) = (walk f s a).bind fun t => walk f t b
  | [], _, _ => rfl
  | c :: a, b, s => by
    show ((next f s c).bind fun t => walk f t (a ++ b)) = ((next f s c).bind fun t => walk f t a).bind fun t => walk f t b
    cases next f s c with
    | none => rfl
    | some t => exact walk_app f a b t
theorem walk_one (f : Rows) (s : Sd) (c : Nat) : walk f s [c] = next f s c := by
  show (next f s c).bind (fun t => some t) = next f s c
  cases next f s c <;> rfl
theorem walk_snoc (f : Rows) (s : Sd) (a : List Nat) (c : Nat) : walk f s (a ++ [c]) = (walk f s a).bind fun t => next f t c := by
  rw [walk_app]
  congr 1
  funext t
  exact walk_one f t c
theorem isCell_of {f : Rows} {p : P2} (h : isCell f p = true) : ∃ i j : Nat, p = ((i : Int), (j : Int)) ∧ i < f.length ∧ j < wid f ∧ sgn f i j = 46 := by
  unfold isCell at h
  simp only [Bool.and_eq_true, decide_eq_true_eq] at h
  obtain ⟨⟨⟨h1, h2⟩, h3, h4⟩, h5⟩ := h
  obtain ⟨i, hi⟩ := Int.eq_ofNat_of_zero_le h1
  obtain ⟨j, hj⟩ := Int.eq_ofNat_of_zero_le h3
  refine ⟨i, j, Prod.ext hi hj, by omega, by omega, ?_⟩
  rw [hi, hj] at h5
  exact h5
theorem isCell_mk {f : Rows} {i j : Nat} (hi : i < f.length) (hj : j < wid f) (h : sgn f i j = 46) : isCell f ((i : Int), (j : Int)) = true := by
  unfold isCell
  simp only [Bool.and_eq_true, decide_eq_true_eq]
  refine ⟨⟨⟨by omega, by omega⟩, by omega, by omega⟩, ?_⟩
  exact h
theorem step_letter {c : Nat} : (stepC c).isSome = decide (c ∈ ([101, 110, 115, 119] : List Nat)) := by
  unfold stepC
  by_cases h1 : c = 110
  · subst h1; rfl
  by_cases h2 : c = 101
  · subst h2; rfl
  by_cases h3 : c = 115
  · subst h3; rfl
  by_cases h4 : c = 119
  · subst h4; rfl
  rw [if_neg h1, if_neg h2, if_neg h3, if_neg h4]
  simp [h1, h2, h3, h4]
/-- the cells in order -/
def cells (f : Rows) : List P2 := (List.range f.length).flatMap fun i => ((List.range (wid f)).filter fun j : Nat => decide (sgn f i j = 46)).map fun j : Nat => ((i : Int), (j : Int))
theorem mem_cells {f : Rows} {p : P2} : p ∈ cells f ↔ isCell f p = true := by
  unfold cells
  rw [List.mem_flatMap]
  constructor
  · rintro ⟨i, hi, h⟩
    obtain ⟨j, hj, rfl⟩ := List.mem_map.mp h
    rw [List.mem_filter] at hj
    exact isCell_mk (List.mem_range.mp hi) (List.mem_range.mp hj.1) (of_decide_eq_true hj.2)
  · intro h
    obtain ⟨i, j, rfl, hi, hj, hs⟩ := isCell_of h
    exact ⟨i, List.mem_range.mpr hi, List.mem_map.mpr ⟨j, List.mem_filter.mpr ⟨List.mem_range.mpr hj, decide_eq_true hs⟩, rfl⟩⟩
end Sta

/-! Lay9: a comprehension over a text; a written dict with texts as keys. -/
namespace Lay
open PySem L2
theorem lc_txt {z : Str} {g : TG} {tt : TT} {te : TE} {vs : List Nat} {σ : L2.St} {H1 : Hp} {D : Addr} {Qd : Hp → Prop} (Pv : Nat → Hp → Prop) (h0 : Pv 0 (upd H1 D (.lst [])))
    (hs : ∀ i c H, z.cps[i]? = some c → Pv i H → g (.str ⟨#[c]⟩) (wipe σ vs) H fun σ2 H2 => wipe σ2 vs = wipe σ vs ∧ tt σ2 H2 fun b H3 =>
      if b = true then te σ2 H3 fun y H4 => ∃ acc, H4 D = some (.lst acc) ∧ acc.length < sizeLine ∧ Pv (i + 1) (upd H4 D (.lst (acc ++ [y]))) else Pv (i + 1) H3) (hd : ∀ H, Pv z.cps.size H → Qd H) :
    ∃ W : Nat → Nat → Hp → Prop, (∃ m, W 0 m (upd H1 D (.lst []))) ∧ ∀ i m H, W i m H →
      ((Its z).stop i H ∧ Qd H) ∨ ((Its z).go i H ∧ ∃ Nx : Hp → Prop, (∀ H', Nx H' → ∃ m', m' < m ∧ W (i + 1) m' H') ∧ ∀ x H', (Its z).yld i H x H' → g x (wipe σ vs) H' fun σ2 H2 => wipe σ2 vs = wipe σ vs ∧ tt σ2 H2 fun b H3 =>
        if b = true then te σ2 H3 fun y H4 => ∃ acc, H4 D = some (.lst acc) ∧ acc.length < sizeLine ∧ Nx (upd H4 D (.lst (acc ++ [y]))) else Nx H3) := by
  refine ⟨fun i m H => m = z.cps.size - i ∧ i ≤ z.cps.size ∧ Pv i H, ⟨z.cps.size, by simp, Nat.zero_le _, h0⟩, ?_⟩
  rintro i m H ⟨rfl, hi, p⟩
  by_cases hlt : i < z.cps.size
  · refine .inr ⟨hlt, Pv (i + 1), fun H' p' => ⟨z.cps.size - (i + 1), by omega, rfl, hlt, p'⟩, fun x H' y => ?_⟩
    obtain ⟨rfl, c, hc, rfl⟩ := y
    exact hs i c _ hc p
  · have e : i = z.cps.size := by omega
    subst e
    exact .inl ⟨Nat.le_refl _, hd H p⟩
section
variable {M : Md} {X : Cx} {N : List Str} {sc scope : Scope} {k j : Nat} {σ : L2.St} {F H : Hp} {env : List (Option PyData)} {elt iter : Expr} {pos tp : Pos} {x : Str}
/-- the words of a comprehension's test -/
def TTok (X : Cx) (scope : Scope) (ifs : List Expr) (tt : TT) : Prop := (ifs = [] ∧ tt = tYes) ∨ ∃ c, ifs = [c] ∧ tt = BT X scope c
theorem TTok.pts {ifs : List Expr} {tt : TT} (h : TTok X scope ifs tt) (s : Shared) (H : Hp) (C : Addr) (cl : List (Str × Addr)) (fp : List Addr) : PTs (X.blk s H scope (compEnvC scope cl C X.env) fp) ifs tt := by
  rcases h with ⟨rfl, rfl⟩ | ⟨c, rfl, rfl⟩
  · exact pts_nil
  · exact pts_one (BT.pt s H C cl fp)
theorem lc_target (o : Ok M X N sc k) (hx : N[j]? = some x) (hxl : (relS scope sc).names.lookup x = some .local) (s : Shared) (H : Hp) (C : Addr) (cl : List (Str × Addr)) (fp : List Addr) : PG (X.blk s H scope (compEnvC scope cl C X.env) fp) (.Name x tp) (gName j) := by
  have e : (compEnvC scope cl C X.env).scope.names.lookup x = some .local := by
    have : (compEnvC scope cl C X.env).scope = relS scope sc := by
      rw [← o.eS]
      rfl
    rw [this]
    exact hxl
  exact pg_name (by show X.N.Nodup; rw [o.eN]; exact o.nd) (by show X.N[j]? = some x; rw [o.eN]; exact hx) (.inl e) (.inr e)
/-- the reading of [elt for x in a text if ..] -/
theorem lcS_tree {ifs : List Expr} {tt : TT} (o : Ok M X N sc k) (own : List (Str × Nat)) (j : Nat) (z : Str) (p : Nat → Bool) (g : Nat → PyData) (htt : TTok X scope ifs tt)
    (hi : XD M X iter σ F H (.str z)) (hj : j ∈ own.map (·.2)) (hz : z.cps.size < 100000)
    (ht : ∀ c : Nat, c ∈ z.cps.toList → ∀ F1 H1, Grow F H F1 H1 → Blk M X N sc scope k ifs elt ((wipe σ (own.map (·.2))).set j (some (.str ⟨#[c]⟩))) F1 H1 (p c) (g c)) (hp : ifs = [] → ∀ z, p z = true)
    (F1 H1 : Hp) (gr : Grow F H F1 H1) (Q : VK) (q : ∀ l vs F' H', Grow F1 H1 F' H' → F' l = none → H1 l = none → H' l = some (.lst vs) → Dns M.K F' vs (kept z.cps.toList p g) → Q (.ref l) H') : tLc (iStr (WE X iter)) (gName j) tt (BE X scope elt) (own.map (·.2)) σ H1 Q := by
  show iStr (WE X iter) σ H1 _
  refine hi.run F1 H1 gr _ fun y F2 H2 g2 r2 => ?_
  cases r2
  refine ⟨z, rfl, fun D hD => ?_⟩
  refine lc_txt (z := z) (fun i H' => LcP M.K F2 H2 D (kept (z.cps.toList.take i) p g) H') ?_ (fun i c H' hi' P => ?_) (fun H' P => ?_)
  · exact ⟨F2, [], Grow.own g2.le hD, g2.le.free hD, hD, upd_same, .nil⟩
  · have e2 : z.cps.toList[i]? = some c := by simpa using hi'
    have T := lc_turn (F := F2) (H := H2) (σ := σ) (b := p c) (e := g c) (v := .str ⟨#[c]⟩) (H' := H') (D := D) (ix := i) (d := .str ⟨#[c]⟩) o htt hj P (Nat.lt_of_le_of_lt (kept_len _ _ _) (by rw [List.length_take, Array.length_toList]; omega)) (fun _ => .str _)
      (fun F3 H3 g3 => ht c (List.mem_of_getElem? e2) F3 H3 ((gr.trans g2).trans g3)) (fun h => hp h c) g2.le
    rw [← kept_snoc, ← take_snoc e2] at T
    exact T
  · rw [← Array.length_toList, List.take_length] at P
    obtain ⟨F', us, g', h1, h2, h3, r⟩ := P
    exact q D us F' H' (g2.trans g') h1 (g2.kp.free h2) h3 r
theorem tt_of {ifs : List Expr} (h : ifs = [] ∨ ∃ c, ifs = [c]) : ∃ tt, TTok X scope ifs tt := by
  rcases h with h | ⟨c, h⟩
  · exact ⟨_, .inl ⟨h, rfl⟩⟩
  · exact ⟨_, .inr ⟨c, h, rfl⟩⟩
/-- [elt for x in a text if ..] -/
theorem o_lcS {ifs : List Expr} (o : Ok M X N sc k) (own : List (Str × Nat)) (j : Nat) (z : Str) (p : Nat → Bool) (g : Nat → PyData) (le : Same F H)
    (hi : XD M X iter σ F H (.str z)) (ok : blkC N sc scope own = true) (hj : j ∈ own.map (·.2)) (hx : N[j]? = some x) (hxl : (relS scope sc).names.lookup x = some .local)
    (hif : ifs = [] ∨ ∃ c, ifs = [c]) (hz : z.cps.size < 100000)
    (ht : ∀ c : Nat, c ∈ z.cps.toList → ∀ F1 H1, Grow F H F1 H1 → Blk M X N sc scope k ifs elt ((wipe σ (own.map (·.2))).set j (some (.str ⟨#[c]⟩))) F1 H1 (p c) (g c)) (hp : ifs = [] → ∀ z, p z = true)
    (hs : ∀ x, foldedSetIterable iter X.env x = pure x := by intro _; rfl) : XO M X (.ListComp elt [⟨.Name x tp, iter, ifs, 0⟩] scope pos) σ F H (kept z.cps.toList p g) := by
  obtain ⟨tt, htt⟩ := tt_of (X := X) (scope := scope) hif
  have okB : BlkOk X.N X.env.scope scope own := by
    rw [o.eN, o.eS]
    exact blkOk_by ok
  exact ⟨fun F1 H1 gr Q q => WE.of (pe_lc o.calm (by rw [o.eN]; exact o.nd) (pi_str WE.pe) okB (lc_target o hx hxl) htt.pts BE.pe hs) (lcS_tree o own j z p g htt hi hj hz ht hp F1 H1 gr Q q)⟩
/-- name = [elt for x in a text if ..] -/
theorem t_setLcS {ifs : List Expr} {y : Str} {i : Nat} {py spos : Pos} {D : Ends} (o : Ok M X N sc k) (S : Stt M.K F H σ env) (own : List (Str × Nat)) (j : Nat) (z : Str) (p : Nat → Bool) (g : Nat → PyData) (hN : At N i y) (hyl : sc.names.lookup y = some .local)
    (hi : XD M X iter σ F H (.str z)) (ok : blkC N sc scope own = true) (hj : j ∈ own.map (·.2)) (hx : N[j]? = some x) (hxl : (relS scope sc).names.lookup x = some .local)
    (hif : ifs = [] ∨ ∃ c, ifs = [c]) (hz : z.cps.size < 100000)
    (ht : ∀ c : Nat, c ∈ z.cps.toList → ∀ F1 H1, Grow F H F1 H1 → Blk M X N sc scope k ifs elt ((wipe σ (own.map (·.2))).set j (some (.str ⟨#[c]⟩))) F1 H1 (p c) (g c)) (hp : ifs = [] → ∀ z, p z = true)
    (kk : ∀ v F' H', Grow F H F' H' → Stt M.K F' H' (σ.set i (some v)) (env.set i (some (.list (kept z.cps.toList p g)))) → D.nx (σ.set i (some v)) H') (hk : sc.kind = .function) (hl : (py.line == pos.line) = true) (ha : (scope.names.any fun (n, k) => n == y && (k == .local || k == .cell)) = false)
    (hs : ∀ x, foldedSetIterable iter X.env x = pure x := by intro _; rfl) : W1 X (.Assign [.Name y py] (.ListComp elt [⟨.Name x tp, iter, ifs, 0⟩] scope pos) spos) D σ H := by
  obtain ⟨tt, htt⟩ := tt_of (X := X) (scope := scope) hif
  have okB : BlkOk X.N X.env.scope scope own := by
    rw [o.eN, o.eS]
    exact blkOk_by ok
  refine W1.of (ps_setLc o.calm (by rw [o.eN]; exact o.nd) (by rw [o.eN]; exact hN.get) (by rw [o.eS]; exact hyl) (sw_true (by rw [o.eS]; exact hk) (by rw [o.eS]; exact hyl) hl ha) (pi_str WE.pe) okB (lc_target o hx hxl) htt.pts BE.pe hs) ?_
  refine lcS_tree o own j z p g htt hi hj hz ht hp F H (Grow.refl S.le) _ fun l vs F' H' g h1 h2 h3 r => ?_
  have G := g.fix (o := .lst vs) h1 h2 h3
  exact kk _ _ H' G ((S.grow G).set (.lst upd_same (r.mono (same_under h1))))
end
end Lay

local macro_rules | `(tactic| walk_at "few") => `(tactic| first | exact Nat.le_of_ble_eq_true rfl | omega | decide)
local macro_rules | `(tactic| walk_at "side") => `(tactic| first | assumption | decide | omega)
local macro_rules | `(tactic| walk_at "pl") => `(tactic| first | rfl | assumption | exact Lay.pl_ints _ | exact Lay.pl_bools _)
local macro_rules | `(tactic| walk_at "at") => `(tactic| first | rfl | assumption)
local macro_rules | `(tactic| walk_at "glb") => `(tactic| decide +kernel)
local macro_rules | `(tactic| walk_at "bt") => `(tactic| with_reducible assumption)
local macro_rules | `(tactic| walk_at "ok0") => `(tactic| exact Lay.Ok.toOk0 (by assumption))
local macro_rules | `(tactic| walk_at "ix") => `(tactic| first | (with_reducible exact Lay.At.here) | (with_reducible refine' Lay.At.there ?t; (case t => walk_at "ix")))
local macro_rules | `(tactic| walk_at "var") => `(tactic| (refine' Lay.v_ ?o ?s ?n ?e ?h; (case o => assumption); (case s => assumption); (case n => walk_at "ix"); (case e => rfl); (case h => decide +kernel)))
local macro_rules | `(tactic| walk_at "xa") => `(tactic| first
  | exact Lay.a_nil
  | (refine' Lay.a_cons ?a ?b; (case a => walk_at "xd"); (case b => walk_at "xa")))
local macro_rules | `(tactic| walk_at "xh") => `(tactic| (refine' Lay.XD.xh ?a; (case a => walk_at "xd")))
local macro_rules | `(tactic| walk_at "pz") => `(tactic| first | exact Lay.pz0 | exact Lay.pzX)
local macro_rules | `(tactic| walk_at "isi") => `(tactic| (refine' Lay.x_isi ?o ?m ?tn ?b ?a ?k ?d ?g ?gt ?n ?db; (case o => walk_at "ok0"); (case m => walk_at "bt"); (case tn => walk_at "bt"); (case b => first | exact PyProof.Rows.boot_int | exact PyProof.Rows.boot_bool | exact PyProof.Rows.boot_tuple | exact PyProof.Rows.boot_list | exact PyProof.Rows.boot_str | exact PyProof.Rows.boot_dict); (case a => walk_at "xd"); (case k => first | exact Lay.kt_ii | exact Lay.kt_ib | exact Lay.kt_tt | exact Lay.kt_bb | exact Lay.kt_ll | exact Lay.kt_ss | exact Lay.kt_bi); (case d => rfl); (case g => decide +kernel); (case gt => decide +kernel); (case n => decide +kernel); (case db => decide +kernel)))
local macro_rules | `(tactic| walk_at "call") => `(tactic| (refine' Lay.x_call ?o ?f ?z ?a ?r ?j ?g; (case o => assumption); (case f => with_reducible assumption); (case z => walk_at "pz"); (case a => walk_at "xa"); (case j => decide); (case g => decide +kernel); (case r => walk_at "rel")))
local macro_rules | `(tactic| walk_at "ocall") => `(tactic| (refine' Lay.o_call ?o ?f ?z ?a ?r ?j ?g; (case o => assumption); (case f => with_reducible assumption); (case z => walk_at "pz"); (case a => walk_at "xa"); (case j => decide); (case g => decide +kernel); (case r => walk_at "rel")))
local macro_rules | `(tactic| walk_at "xo") => `(tactic| first
  | assumption
  | walk_at "ocall"
  | (refine' Lay.x_lst ?a ?z; (case a => walk_at "xa"); (case z => walk_at "few")))
local macro_rules | `(tactic| walk_at "xd") => `(tactic| first
  | exact Lay.x_int
  | exact Lay.x_str
  | exact Lay.x_bl
  | exact Lay.x_non
  | walk_at "var"
  | assumption
  | (refine' Lay.x_const ?o ?c ?g ?d; (case o => assumption); (case c => with_reducible assumption); (case g => decide +kernel); (case d => decide +kernel))
  | (refine' Lay.x_add ?a ?b; (case a => walk_at "xd"); (case b => walk_at "xd"))
  | (refine' Lay.x_adds ?a ?b ?c; (case a => walk_at "xd"); (case b => walk_at "xd"); (case c => walk_at "slen"))
  | (refine' Lay.x_sub ?a ?b; (case a => walk_at "xd"); (case b => walk_at "xd"))
  | (refine' Lay.x_mulR ?a ?b ?c; (case a => walk_at "xd"); (case b => walk_at "xd"); (case c => walk_at "side"))
  | (refine' Lay.x_mulL ?a ?b ?c; (case a => walk_at "xd"); (case b => walk_at "xd"); (case c => walk_at "side"))
  | (refine' Lay.x_mod ?a ?b ?c; (case a => walk_at "xd"); (case b => walk_at "xd"); (case c => walk_at "side"))
  | (refine' Lay.x_fdiv ?a ?b ?c; (case a => walk_at "xd"); (case b => walk_at "xd"); (case c => walk_at "side"))
  | (refine' Lay.x_neg ?a; (case a => walk_at "xd"))
  | (refine' Lay.x_ixT ?o ?a ?b ?c; (case o => walk_at "ok0"); (case a => walk_at "xd"); (case b => walk_at "xd"); (case c => walk_at "at"))
  | (refine' Lay.x_ixL ?o ?a ?b ?c; (case o => walk_at "ok0"); (case a => walk_at "xd"); (case b => walk_at "xd"); (case c => walk_at "at"))
  | (refine' Lay.x_len ?o ?m ?a ?g; (case o => walk_at "ok0"); (case m => walk_at "bt"); (case a => walk_at "xh"); (case g => decide +kernel))
  | (refine' Lay.x_tup ?a ?z; (case a => walk_at "xa"); (case z => walk_at "few"))
  | walk_at "call"
  | walk_at "isi"
  | (refine' Lay.x_all ?o ?m ?a ?g; (case o => assumption); (case m => walk_at "bt"); (case a => walk_at "xh"); (case g => decide +kernel))
  | (refine' Lay.x_eqS ?a ?b; (case a => walk_at "xh"); (case b => walk_at "xh"))
  | (refine' Lay.x_eq ?o ?a ?b ?c ?d; (case o => assumption); (case a => walk_at "xh"); (case b => walk_at "xh"); (case c => walk_at "pl"); (case d => walk_at "pl"))
  | (refine' Lay.x_ne ?o ?a ?b ?c ?d; (case o => assumption); (case a => walk_at "xh"); (case b => walk_at "xh"); (case c => walk_at "pl"); (case d => walk_at "pl"))
  | (refine' Lay.x_lt ?a ?b; (case a => walk_at "xh"); (case b => walk_at "xh"))
  | (refine' Lay.x_le ?a ?b; (case a => walk_at "xh"); (case b => walk_at "xh"))
  | (refine' Lay.x_gt ?a ?b; (case a => walk_at "xh"); (case b => walk_at "xh"))
  | (refine' Lay.x_ge ?a ?b; (case a => walk_at "xh"); (case b => walk_at "xh"))
  | (refine' Lay.XO.xd ?a; (case a => walk_at "xo")))
local macro_rules | `(tactic| walk_at "xb") => `(tactic| first
  | assumption
  | (refine' Lay.b_not ?a; (case a => walk_at "xb"))
  | (refine' Lay.b_eqS ?a ?b; (case a => walk_at "xh"); (case b => walk_at "xh"))
  | (refine' Lay.b_neS ?a ?b; (case a => walk_at "xh"); (case b => walk_at "xh"))
  | (refine' Lay.b_eq ?o ?a ?b ?c ?d; (case o => assumption); (case a => walk_at "xh"); (case b => walk_at "xh"); (case c => walk_at "pl"); (case d => walk_at "pl"))
  | (refine' Lay.b_ne ?o ?a ?b ?c ?d; (case o => assumption); (case a => walk_at "xh"); (case b => walk_at "xh"); (case c => walk_at "pl"); (case d => walk_at "pl"))
  | (refine' Lay.b_lt ?a ?b; (case a => walk_at "xh"); (case b => walk_at "xh"))
  | (refine' Lay.b_le ?a ?b; (case a => walk_at "xh"); (case b => walk_at "xh"))
  | (refine' Lay.b_gt ?a ?b; (case a => walk_at "xh"); (case b => walk_at "xh"))
  | (refine' Lay.b_ge ?a ?b; (case a => walk_at "xh"); (case b => walk_at "xh"))
  | (refine' Lay.b_lele ?a ?b ?c; (case a => walk_at "xd"); (case b => walk_at "xd"); (case c => walk_at "xd"))
  | (refine' Lay.b_lelt ?a ?b ?c; (case a => walk_at "xd"); (case b => walk_at "xd"); (case c => walk_at "xd"))
  | (refine' Lay.b_val ?a; (case a => walk_at "xd")))
local macro_rules | `(tactic| walk_at "set") => `(tactic| (refine' Lay.t_set ?o ?f ?s ?n ?h ?k ?l; (case o => assumption); (case f => assumption); (case s => assumption); (case n => walk_at "ix"); (case l => decide +kernel); (case h => walk_at "xd")))
local macro_rules | `(tactic| walk_at "if") => `(tactic| (refine' Lay.t_if ?s ?c ?t ?f; (case s => assumption); (case c => walk_at "xb")))
local macro_rules | `(tactic| walk_at "xdt") => `(tactic| (refine' Lay.XD.to ?h ?e; (case h => walk_at "xd"); (case e => rfl)))
local macro_rules | `(tactic| walk_at "xbt") => `(tactic| (refine' Lay.XB.to ?h ?e; (case h => walk_at "xb"); (case e => rfl)))
local macro_rules | `(tactic| walk_at "xde") => `(tactic| (refine' Lay.XD.to ?h ?e; (case h => walk_at "xd")))
local macro_rules | `(tactic| walk_at "xbe") => `(tactic| (refine' Lay.XB.to ?h ?e; (case h => walk_at "xb")))

namespace Roll
open PySem L2 Lay
def top (i : Nat) : Stmt := PySem.Challenge.pw_rolldie_k05_walked.main.body.getD i (.Pass ⟨0, 0, 0, 0⟩)
abbrev s_rolled_by : Stmt := top 9
abbrev n_rolled_by : List Str := ["lie", "roll", "top", "north", "east"]
theorem sc_rolled_by : FnScope n_rolled_by ["lie", "roll"] (defScope s_rolled_by) := ⟨rfl, rfl, rfl, by decide +kernel, rfl, by decide +kernel, by decide +kernel⟩
abbrev s_pairs_of : Stmt := top 10
abbrev n_pairs_of : List Str := ["lie", "number"]
theorem sc_pairs_of : FnScope n_pairs_of ["lie"] (defScope s_pairs_of) := ⟨rfl, rfl, rfl, by decide +kernel, rfl, by decide +kernel, by decide +kernel⟩
abbrev s_disorder : Stmt := top 11
abbrev n_disorder : List Str := ["row", "count", "place", "number"]
theorem sc_disorder : FnScope n_disorder ["row"] (defScope s_disorder) := ⟨rfl, rfl, rfl, by decide +kernel, rfl, by decide +kernel, by decide +kernel⟩
abbrev s_is_lie : Stmt := top 12
abbrev n_is_lie : List Str := ["lie", "number", "great"]
theorem sc_is_lie : FnScope n_is_lie ["lie"] (defScope s_is_lie) := ⟨rfl, rfl, rfl, by decide +kernel, rfl, by decide +kernel, by decide +kernel⟩
abbrev s_must_be_lie : Stmt := top 13
abbrev n_must_be_lie : List Str := ["lie"]
theorem sc_must_be_lie : FnScope n_must_be_lie ["lie"] (defScope s_must_be_lie) := ⟨rfl, rfl, rfl, by decide +kernel, rfl, by decide +kernel, by decide +kernel⟩
abbrev s_must_be_floor : Stmt := top 17
abbrev n_must_be_floor : List Str := ["floor", "row", "sign"]
theorem sc_must_be_floor : FnScope n_must_be_floor ["floor"] (defScope s_must_be_floor) := ⟨rfl, rfl, rfl, by decide +kernel, rfl, by decide +kernel, by decide +kernel⟩
abbrev s_is_cell : Stmt := top 18
abbrev n_is_cell : List Str := ["floor", "place"]
theorem sc_is_cell : FnScope n_is_cell ["floor", "place"] (defScope s_is_cell) := ⟨rfl, rfl, rfl, by decide +kernel, rfl, by decide +kernel, by decide +kernel⟩
abbrev s_must_be_cell : Stmt := top 19
abbrev n_must_be_cell : List Str := ["floor", "place"]
theorem sc_must_be_cell : FnScope n_must_be_cell ["floor", "place"] (defScope s_must_be_cell) := ⟨rfl, rfl, rfl, by decide +kernel, rfl, by decide +kernel, by decide +kernel⟩
abbrev s_must_be_stand : Stmt := top 20
abbrev n_must_be_stand : List Str := ["floor", "stand"]
theorem sc_must_be_stand : FnScope n_must_be_stand ["floor", "stand"] (defScope s_must_be_stand) := ⟨rfl, rfl, rfl, by decide +kernel, rfl, by decide +kernel, by decide +kernel⟩
abbrev s_next_stand : Stmt := top 21
abbrev n_next_stand : List Str := ["floor", "stand", "roll", "step", "place"]
theorem sc_next_stand : FnScope n_next_stand ["floor", "stand", "roll"] (defScope s_next_stand) := ⟨rfl, rfl, rfl, by decide +kernel, rfl, by decide +kernel, by decide +kernel⟩
abbrev s_walked : Stmt := top 22
abbrev n_walked : List Str := ["floor", "stand", "rolls", "roll", "then"]
theorem sc_walked : FnScope n_walked ["floor", "stand", "rolls"] (defScope s_walked) := ⟨rfl, rfl, rfl, by decide +kernel, rfl, by decide +kernel, by decide +kernel⟩
abbrev s__law_cell_at : Stmt := top 24
abbrev n__law_cell_at : List Str := ["script", "k"]
theorem sc__law_cell_at : FnScope n__law_cell_at ["script", "k"] (defScope s__law_cell_at) := ⟨rfl, rfl, rfl, by decide +kernel, rfl, by decide +kernel, by decide +kernel⟩
abbrev s__law_pick : Stmt := top 25
abbrev n__law_pick : List Str := ["script", "k"]
theorem sc__law_pick : FnScope n__law_pick ["script", "k"] (defScope s__law_pick) := ⟨rfl, rfl, rfl, by decide +kernel, rfl, by decide +kernel, by decide +kernel⟩
abbrev s__law_whole : Stmt := top 26
abbrev n__law_whole : List Str := ["x"]
theorem sc__law_whole : FnScope n__law_whole ["x"] (defScope s__law_whole) := ⟨rfl, rfl, rfl, by decide +kernel, rfl, by decide +kernel, by decide +kernel⟩
abbrev s__law_mix : Stmt := top 27
abbrev n__law_mix : List Str := ["cell", "k", "mixed"]
theorem sc__law_mix : FnScope n__law_mix ["cell", "k"] (defScope s__law_mix) := ⟨rfl, rfl, rfl, by decide +kernel, rfl, by decide +kernel, by decide +kernel⟩
abbrev s__law_pairs : Stmt := top 28
abbrev n__law_pairs : List Str := ["lie", "number"]
theorem sc__law_pairs : FnScope n__law_pairs ["lie"] (defScope s__law_pairs) := ⟨rfl, rfl, rfl, by decide +kernel, rfl, by decide +kernel, by decide +kernel⟩
abbrev s__law_odd : Stmt := top 29
abbrev n__law_odd : List Str := ["row", "count", "k", "one"]
theorem sc__law_odd : FnScope n__law_odd ["row"] (defScope s__law_odd) := ⟨rfl, rfl, rfl, by decide +kernel, rfl, by decide +kernel, by decide +kernel⟩
abbrev s__law_is_lie : Stmt := top 30
abbrev n__law_is_lie : List Str := ["lie", "number", "great"]
theorem sc__law_is_lie : FnScope n__law_is_lie ["lie"] (defScope s__law_is_lie) := ⟨rfl, rfl, rfl, by decide +kernel, rfl, by decide +kernel, by decide +kernel⟩
abbrev s__law_lies : Stmt := top 31
abbrev n__law_lies : List Str := ["found", "top", "north", "east"]
theorem sc__law_lies : FnScope n__law_lies [] (defScope s__law_lies) := ⟨rfl, rfl, rfl, by decide +kernel, rfl, by decide +kernel, by decide +kernel⟩
abbrev s__law_roll : Stmt := top 32
abbrev n__law_roll : List Str := ["lie", "roll"]
theorem sc__law_roll : FnScope n__law_roll ["lie", "roll"] (defScope s__law_roll) := ⟨rfl, rfl, rfl, by decide +kernel, rfl, by decide +kernel, by decide +kernel⟩
abbrev s__law_rolled : Stmt := top 33
abbrev n__law_rolled : List Str := ["lie", "rolls", "roll"]
theorem sc__law_rolled : FnScope n__law_rolled ["lie", "rolls"] (defScope s__law_rolled) := ⟨rfl, rfl, rfl, by decide +kernel, rfl, by decide +kernel, by decide +kernel⟩
abbrev s__law_floor : Stmt := top 34
abbrev n__law_floor : List Str := ["script", "start", "most", "cell", "rows", "columns", "rare", "found", "row", "line", "column", "mixed"]
theorem sc__law_floor : FnScope n__law_floor ["script", "start", "most"] (defScope s__law_floor) := ⟨rfl, rfl, rfl, by decide +kernel, rfl, by decide +kernel, by decide +kernel⟩
abbrev s__law_cells : Stmt := top 35
abbrev n__law_cells : List Str := ["floor", "found", "row", "column"]
theorem sc__law_cells : FnScope n__law_cells ["floor"] (defScope s__law_cells) := ⟨rfl, rfl, rfl, by decide +kernel, rfl, by decide +kernel, by decide +kernel⟩
abbrev s__law_next : Stmt := top 36
abbrev n__law_next : List Str := ["floor", "stand", "roll", "row", "column"]
theorem sc__law_next : FnScope n__law_next ["floor", "stand", "roll"] (defScope s__law_next) := ⟨rfl, rfl, rfl, by decide +kernel, rfl, by decide +kernel, by decide +kernel⟩
abbrev s__law_lie_like : Stmt := top 37
abbrev n__law_lie_like : List Str := ["found", "due", "number"]
theorem sc__law_lie_like : FnScope n__law_lie_like ["found", "due"] (defScope s__law_lie_like) := ⟨rfl, rfl, rfl, by decide +kernel, rfl, by decide +kernel, by decide +kernel⟩
abbrev s__law_refused : Stmt := top 38
abbrev n__law_refused : List Str := ["marks", "which", "k"]
theorem sc__law_refused : FnScope n__law_refused ["marks", "which"] (defScope s__law_refused) := ⟨rfl, rfl, rfl, by decide +kernel, rfl, by decide +kernel, by decide +kernel⟩
abbrev s__law_told : Stmt := top 39
abbrev n__law_told : List Str := ["floor", "stand", "rolls", "found", "marks", "e"]
theorem sc__law_told : FnScope n__law_told ["floor", "stand", "rolls"] (defScope s__law_told) := ⟨rfl, rfl, rfl, by decide +kernel, rfl, by decide +kernel, by decide +kernel⟩
abbrev s__law_drawn : Stmt := top 40
abbrev n__law_drawn : List Str := ["script", "cells", "cell", "place", "lie"]
theorem sc__law_drawn : FnScope n__law_drawn ["script", "cells"] (defScope s__law_drawn) := ⟨rfl, rfl, rfl, by decide +kernel, rfl, by decide +kernel, by decide +kernel⟩
abbrev s_law : Stmt := top 41
abbrev n_law : List Str := ["script", "floor", "cells", "stand", "place", "lie", "due", "rolls", "k", "mixed", "roll", "one", "good", "handed", "told"]
theorem sc_law : FnScope n_law ["script"] (defScope s_law) := ⟨rfl, rfl, rfl, by decide +kernel, rfl, by decide +kernel, by decide +kernel⟩
end Roll

namespace Roll
open PySem L2 Lay
/-- three numbers as a tuple -/
abbrev tl (a b c : Int) : PyData := .tuple [.int a, .int b, .int c]
abbrev tL (l : Die.L3) : PyData := tl l.1 l.2.1 l.2.2
/-- a class of errors, as the module made it -/
structure Ec (M : Md) (x : Str) (C : Addr) : Prop where
  g : M.mg x = some (.ref C)
  xc : PySem.W.excIn M.K C [.type "ValueError", .type "Exception", .type "BaseException", .type "object"] "ValueError.__new__" = true
  kp : PySem.W.keepIn M.K (.ref C) = true
  sb : PySem.W.subIn M.K (.ref C) (.type "BaseException") = some true
  ty : PySem.W.typeIn M.K (.ref C) = some (.type "type")
/-- marks of the error number w -/
def marksOf (w : Int) : List Bool := (List.range 5).map (fun k : Nat => ((k : Int) == w)) ++ [true]
theorem pl_tints (ns : List Int) : Pl (.tuple (ns.map PyData.int)) := pl_ints ns
theorem like_true {l m : Die.L3} (h : l = m) : PyData.bool ([l.1, l.2.1, l.2.2] == [m.1, m.2.1, m.2.2]) = .bool true := by
  subst h
  rw [beq_self_eq_true]
def rLaw (ds : List PyData) (r : Out) : Prop := ∃ ns : List Int, ns.length ≤ 63 ∧ ds = [scr ns] ∧ r = .val (.bool true)
def rRoll (ds : List PyData) (r : Out) : Prop := ∃ (a b c : Int) (g : Nat), ds = [tl a b c, .str ⟨#[g]⟩] ∧ r = .val (tL (Die.roll (a, b, c) g))
def rRolled (ds : List PyData) (r : Out) : Prop := ∃ (a b c : Int) (cs : List Nat), ds = [tl a b c, .str (tx cs)] ∧ r = .val (tL (Die.rolled (a, b, c) cs))
end Roll

namespace Roll
open PySem L2 Lay
/-! the steps of the rolls: a written dict -/
abbrev tP (p : Sta.P2) : PyData := .tuple [.int p.1, .int p.2]
abbrev tSd (s : Sta.Sd) : PyData := .tuple [tP s.1, tL s.2]
structure Steps (M : Md) : Prop where
  ex : ∃ xS : Addr, M.mg "STEPS" = some (.ref xS) ∧ (∃ es n, KDict M.K M.w xS es n) ∧
    (∀ c d, Sta.stepC c = some d → ∃ p : Addr, PySem.W.nsIn M.K xS ⟨#[c]⟩ = some (some (.ref p)) ∧ ∀ F, Dn M.K F (.ref p) (tP d)) ∧
    ∀ c, Sta.stepC c = none → PySem.W.nsIn M.K xS ⟨#[c]⟩ = some none
theorem nsIn_four {K : PySem.W.Frag} {x : Addr} {h1 h2 h3 h4 : Int} {k1 k2 k3 k4 : Str} {t1 t2 t3 t4 : Tok} {v1 v2 v3 v4 : Value} {n : Nat}
    (hl : K.lookup x = some ⟨.type "dict", none, .dict #[⟨h1, .str k1 t1, v1⟩, ⟨h2, .str k2 t2, v2⟩, ⟨h3, .str k3 t3, v3⟩, ⟨h4, .str k4 t4, v4⟩] n, #[]⟩) (z : Str) :
    PySem.W.nsIn K x z = some (if z = k1 then some v1 else if z = k2 then some v2 else if z = k3 then some v3 else if z = k4 then some v4 else none) := by
  have e : ∀ (k : Str) (t : Tok), (Value.str k t).isStr z = decide (z = k) := fun k t => by
    rw [PySem.W.isStr_of]
    show (k == z) = decide (z = k)
    by_cases h : z = k
    · subst h
      simp
    · rw [decide_eq_false h]
      simp [Ne.symm h]
  unfold PySem.W.nsIn
  rw [hl]
  simp only [List.find?_cons, e]
  by_cases q1 : z = k1
  · simp [q1]
  rw [decide_eq_false q1, if_neg q1]
  by_cases q2 : z = k2
  · simp [q2]
  rw [decide_eq_false q2, if_neg q2]
  by_cases q3 : z = k3
  · simp [q3]
  rw [decide_eq_false q3, if_neg q3]
  by_cases q4 : z = k4
  · simp [q4]
  rw [decide_eq_false q4, if_neg q4]
  simp [DictEntry.refKey]
theorem one_inj {c d : Nat} : ((⟨#[c]⟩ : Str) = ⟨#[d]⟩) = (c = d) := by
  apply propext
  have := sign_eq c d
  constructor
  · intro h
    rw [decide_eq_true h] at this
    exact of_decide_eq_true this.symm
  · intro h
    subst h
    rfl
theorem tup_two {K : PySem.W.Frag} {p : Addr} {dd : Option Addr} {i j : Int} {u v : Tok} {m : Nat} {sl : Array (Option Value)} (h : K.lookup p = some ⟨.type "tuple", dd, .seq #[.int i u, .int j v] m, sl⟩) (F : Hp) : Dn K F (.ref p) (tP (i, j)) :=
  .tup (xs := [.int i, .int j]) (.inr ⟨_, _, m, h, rfl, rfl, Nat.le_trans (Nat.le_of_ble_eq_true rfl : _ ≤ 100) (by decide), .cons ⟨u, rfl⟩ (.cons ⟨v, rfl⟩ .nil)⟩) (.cons (.int i) (.cons (.int j) .nil))
theorem steps_mk {M : Md} {x pn pe ps pw : Addr} {hn he hs hw : Int} {kn ke ks kw n0 n1 e0 e1 s0 s1 w0 w1 : Tok} {n mn me ms mw : Nat} {dn de ds dw : Option Addr} {ln le ls lw : Array (Option Value)} (g : M.mg "STEPS" = some (.ref x))
    (hl : M.K.lookup x = some ⟨.type "dict", none, .dict #[⟨hn, .str "n" kn, .ref pn⟩, ⟨he, .str "e" ke, .ref pe⟩, ⟨hs, .str "s" ks, .ref ps⟩, ⟨hw, .str "w" kw, .ref pw⟩] n, #[]⟩)
    (hk : PySem.W.KeysLit M.w.params [⟨hn, .str "n" kn, .ref pn⟩, ⟨he, .str "e" ke, .ref pe⟩, ⟨hs, .str "s" ks, .ref ps⟩, ⟨hw, .str "w" kw, .ref pw⟩]) (low : (x == sysModules) = false)
    (an : M.K.lookup pn = some ⟨.type "tuple", dn, .seq #[.int (-1) n0, .int 0 n1] mn, ln⟩) (ae : M.K.lookup pe = some ⟨.type "tuple", de, .seq #[.int 0 e0, .int 1 e1] me, le⟩)
    (as : M.K.lookup ps = some ⟨.type "tuple", ds, .seq #[.int 1 s0, .int 0 s1] ms, ls⟩) (aw : M.K.lookup pw = some ⟨.type "tuple", dw, .seq #[.int 0 w0, .int (-1) w1] mw, lw⟩) : Steps M := by
  have hns := fun z => nsIn_four hl z
  rw [sign_n, sign_e, sign_s, sign_w] at hns
  refine ⟨x, g, ⟨_, _, hl, hk, low⟩, fun c d h => ?_, fun c h => ?_⟩
  · have e := hns ⟨#[c]⟩
    simp only [one_inj] at e
    unfold Sta.stepC at h
    by_cases h1 : c = 110
    · rw [if_pos h1] at e h
      cases h
      exact ⟨pn, e, tup_two an⟩
    rw [if_neg h1] at e h
    by_cases h2 : c = 101
    · rw [if_pos h2] at e h
      cases h
      exact ⟨pe, e, tup_two ae⟩
    rw [if_neg h2] at e h
    by_cases h3 : c = 115
    · rw [if_pos h3] at e h
      cases h
      exact ⟨ps, e, tup_two as⟩
    rw [if_neg h3] at e h
    by_cases h4 : c = 119
    · rw [if_pos h4] at e h
      cases h
      exact ⟨pw, e, tup_two aw⟩
    rw [if_neg h4] at h
    cases h
  · have e := hns ⟨#[c]⟩
    simp only [one_inj] at e
    unfold Sta.stepC at h
    by_cases h1 : c = 110
    · rw [if_pos h1] at h
      cases h
    by_cases h2 : c = 101
    · rw [if_neg h1, if_pos h2] at h
      cases h
    by_cases h3 : c = 115
    · rw [if_neg h1, if_neg h2, if_pos h3] at h
      cases h
    by_cases h4 : c = 119
    · rw [if_neg h1, if_neg h2, if_neg h3, if_pos h4] at h
      cases h
    rw [if_neg h1, if_neg h2, if_neg h3, if_neg h4] at e
    exact e
section
variable {M : Md} {X : Cx} {N : List Str} {sc : Scope} {k : Nat} {σ : L2.St} {F H : Hp} {a : Expr} {pos p : Pos} {c : Nat} {d : Sta.P2}
theorem b_ninSteps (o : Ok M X N sc k) (st : Steps M) (ha : XD M X a σ F H (.str ⟨#[c]⟩)) (hg : sc.names.lookup ("STEPS" : Str) = some .globalImplicit) : XB M X (.Compare a [.NotIn] [.Name "STEPS" p] pos) σ F H (!(Sta.stepC c).isSome) := by
  obtain ⟨x, g, ⟨es, n, kd⟩, h1, h2⟩ := st.ex
  rw [← o.eK, ← o.eW] at kd
  refine ⟨fun F1 H1 gr Q q => ?_⟩
  refine WT.of (pt_cmpR (op_notIn_kd kd) WE.pe (pe_glob (v := .ref x) (gl_of o.toOk0 hg) (by rw [o.eG]; exact g) rfl (by decide +kernel)) rfl) ?_
  refine ha.run F1 H1 gr _ fun v F2 H2 g2 r2 => ?_
  cases r2
  cases hc : Sta.stepC c with
  | none => exact ⟨_, none, rfl, rfl, by rw [o.eK]; exact h2 c hc, _, rfl, by rw [hc] at q; exact q F2 H2 g2⟩
  | some d =>
    obtain ⟨p, e, _⟩ := h1 c d hc
    exact ⟨_, some (.ref p), rfl, rfl, by rw [o.eK]; exact e, _, rfl, by rw [hc] at q; exact q F2 H2 g2⟩
theorem x_ixSteps (o : Ok M X N sc k) (st : Steps M) (ha : XD M X a σ F H (.str ⟨#[c]⟩)) (hd : Sta.stepC c = some d) (hg : sc.names.lookup ("STEPS" : Str) = some .globalImplicit) (hp : PlainIx a := by exact fun _ _ => rfl) : XD M X (.Subscript (.Name "STEPS" p) a pos) σ F H (tP d) := by
  obtain ⟨x, g, ⟨es, n, kd⟩, h1, h2⟩ := st.ex
  obtain ⟨p', e, hD⟩ := h1 c d hd
  refine ⟨fun F1 H1 gr Q q => ?_⟩
  refine WE.of (pe_ix ix_kdict (pe_glob (v := .ref x) (gl_of o.toOk0 hg) (by rw [o.eG]; exact g) rfl (by decide +kernel)) WE.pe hp) ?_
  show WE X a σ H1 _
  refine ha.run F1 H1 gr _ fun v F2 H2 g2 r2 => ?_
  cases r2
  refine ⟨x, _, .ref p', rfl, rfl, ⟨es, n, .ref p', ?_, ?_, ?_, rfl⟩, q _ F2 H2 g2 (hD F2)⟩
  · rw [o.eK]
    exact kd.at_
  · rw [o.eW]
    exact kd.lit
  · rw [o.eK]
    exact e
end
end Roll

namespace Roll
open PySem L2 Lay
theorem pr_at {z : Int} (h : 1 ≤ z ∧ z ≤ 6) : atI [PyData.int 0, .int 1, .int 2, .int 3, .int 3, .int 2, .int 1] z = some (.int (Die.pr z)) := by
  have : z = 1 ∨ z = 2 ∨ z = 3 ∨ z = 4 ∨ z = 5 ∨ z = 6 := by omega
  rcases this with rfl | rfl | rfl | rfl | rfl | rfl <;> rfl
def rPairs (ds : List PyData) (r : Out) : Prop := ∃ a b c : Int, ds = [tl a b c] ∧ (1 ≤ a ∧ a ≤ 6) ∧ (1 ≤ b ∧ b ≤ 6) ∧ (1 ≤ c ∧ c ≤ 6) ∧ r = .own [.int (Die.pr a), .int (Die.pr b), .int (Die.pr c)]
def rDis (ds : List PyData) (r : Out) : Prop := ∃ ns : List Int, ds = [.list (ns.map PyData.int)] ∧ ns.length ≤ 1000 ∧ r = .val (.int (Die.dis ns))
section
variable {M : Md}
theorem fc_pairs_of {f : Addr} {fd : FuncData} (F : Fun M.K "pairs_of" "pairs_of" s_pairs_of f fd) (gm : M.mg "pairs_of" = some (.ref f)) (bd : Binds M.K fd ["lie"] [])
    (hP : Gc M "PAIRS" (.tuple [.int 0, .int 1, .int 2, .int 3, .int 3, .int 2, .int 1])) : Fc M CX0 "pairs_of" 1 (spG M.K rPairs) := by
  refine fc_of F gm bd sc_pairs_of (fun ds r h => ?_) (by decide) fun X o fs ds r h F0 H σ Q E S dn => ?_
  · obtain ⟨a, b, c, rfl, _⟩ := h
    rfl
  · obtain ⟨a, b, c, rfl, ha, hb, hc, rfl⟩ := h
    have hz : ∀ z ∈ [a, b, c], 1 ≤ z ∧ z ≤ 6 := by
      intro z hz
      simp only [List.mem_cons, List.not_mem_nil, or_false] at hz
      rcases hz with rfl | rfl | rfl <;> assumption
    refine s_one (t_doneO (E := E) S (o_lc o [("number", 1)] 1 PyData.int [a, b, c] (fun _ => true) (fun z => .int (Die.pr z)) S.le (.inr (by walk_at "xd")) (by decide +kernel) (by decide) rfl (by decide +kernel) (.inl rfl) (by show 3 < 100000; decide) (fun z hm v F1 H1 g r => ?_) (fun _ _ => rfl)) dn)
    have hz := hz z hm
    have S' := S.blk (vs := [1]) (j := 1) g r
    have e := pr_at hz
    exact Blk.no fun Y oY => by walk_at "xd"
theorem gr_eq (ns : List Int) (i : Nat) {z : Int} (hz : ns[i]? = some z) : Die.gr ns i = ((ns.take i).filter fun n => decide (z < n)).length := by
  unfold Die.gr
  rw [show ns.getD i 0 = z by rw [List.getD_eq_getElem?_getD, hz]; rfl]
theorem fc_disorder {f : Addr} {fd : FuncData} (F : Fun M.K "disorder" "disorder" s_disorder f fd) (gm : M.mg "disorder" = some (.ref f)) (bd : Binds M.K fd ["row"] [])
    (hlen : M.mg "len" = none) (hran : M.mg "range" = none) : Fc M CX0 "disorder" 1 (spG M.K rDis) := by
  refine fc_of F gm bd sc_disorder (fun ds r h => ?_) (by decide) fun X o fs ds r h F0 H σ Q E S dn => ?_
  · obtain ⟨ns, rfl, _⟩ := h
    rfl
  · obtain ⟨ns, rfl, hl, rfl⟩ := h
    refine s_cons ?_
    walk_at "set"
    intro v1 F1 H1 g1 S1
    refine s_cons ?_
    refine t_forR o fs S1 (by walk_at "ix") (r_1 (n := (ns.length : Int)) o.toOk0 hran ?_ (by omega)) (fun i F' σ' H' => Grow F0 H F' H' ∧ Stt M.K F' H' σ' [some (.list (ns.map PyData.int)), some (.int (Die.disC ns i)), none, none]) ?_ ?_ ?_
    · refine XD.to (d1 := .int (ns.map PyData.int).length) (by walk_at "xd") ?_
      rw [List.length_map]
    · intro F' H' g S'
      exact ⟨g1.trans g, S'.less ⟨.inr rfl, .inr rfl, .inl rfl, .inl rfl, trivial⟩⟩
    · rintro i F' σ' H' hi e1 e2 ⟨g, S'⟩
      have hi' : i < ns.length := by omega
      obtain ⟨z, hz⟩ : ∃ z, ns[i]? = some z := ⟨ns[i], by simp [hi']⟩
      have S2 := S'.set (i := 2) (v := .int (0 + (i : Int))) (d := .int (0 + (i : Int))) (.int _)
      rw [show (0 : Int) + (i : Int) = (i : Int) by omega] at S2 ⊢
      refine s_one ?_
      have hat : atI (ns.map PyData.int) (i : Int) = some (.int z) := atI_nat (by rw [List.getElem?_map, hz]; rfl)
      refine t_set (d := .int (Die.disC ns (i + 1))) o fs S2 (by walk_at "ix") ?_ ?_ (by decide +kernel)
      · refine XD.to (d1 := .int ((Die.disC ns i : Int) + ((kept (ns.take i) (fun n => decide (z < n)) PyData.int).length : Nat))) (x_add (by walk_at "xd") (x_len o.toOk0 hlen (XO.xd (o_lc o [("number", 3)] 3 PyData.int (ns.take i) (fun n => decide (z < n)) PyData.int S2.le (.inl ?_) (by decide +kernel) (by decide) rfl (by decide +kernel) (.inr ⟨_, rfl⟩) ?_ ?_ ?_)).xh (by decide +kernel))) ?_
        · refine XD.to (d1 := .list (cutD (ns.map PyData.int) none (some (i : Int)))) (XO.xd (o_slL o.toOk0 (by walk_at "var") .no (.yes (by walk_at "var")))) ?_
          rw [cut_none i (by rw [List.length_map]; omega), List.map_take]
        · rw [List.length_take]
          omega
        · intro n hm v F2 H2 g2 r
          have S3 := S2.blk (vs := [3]) (j := 3) g2 r
          exact Blk.one (fun Y oY => by walk_at "xb") fun _ Y oY => by walk_at "xd"
        · intro h
          cases h
        · show PyData.int _ = PyData.int _
          rw [show Die.disC ns (i + 1) = Die.disC ns i + Die.gr ns i from rfl, gr_eq ns i hz]
          unfold kept
          rw [List.length_map, Int.natCast_add]
      · intro v F2 H2 g2 S3
        exact ⟨F2, g2.ex, g2.le, g.trans g2, S3.less ⟨.inr rfl, .inr rfl, .inl rfl, .inl rfl, trivial⟩⟩
    · rintro F' σ' H' e1 e2 ⟨g, S'⟩
      refine s_one (t_done (E := E) S' ?_ (dn.grow g))
      refine XD.to (d1 := .int ((Die.disC ns ((ns.length : Int)).toNat : Int) % 2)) (by walk_at "xd") ?_
      unfold Die.dis
      rw [Int.toNat_natCast]
end
/-! whether a lie is right -/
def srt (ps : List Int) : List Int := ps.mergeSort fun x y => decide (x ≤ y)
theorem srt_perm (ps : List Int) : (srt ps).Perm ps := List.mergeSort_perm _ _
theorem srt_up (ps : List Int) : (srt ps).Pairwise (· ≤ ·) := by
  have h := List.pairwise_mergeSort (le := fun x y : Int => decide (x ≤ y)) (fun a b c h1 h2 => by
    simp only [decide_eq_true_eq] at *
    omega) (fun a b => by
    simp only [Bool.or_eq_true, decide_eq_true_eq]
    omega) ps
  exact h.imp fun h => of_decide_eq_true h
theorem srt_iff (ps : List Int) : (srt ps == [1, 2, 3]) = decide (ps.Perm [1, 2, 3]) := by
  by_cases h : ps.Perm [1, 2, 3]
  · rw [decide_eq_true h]
    have e : srt ps = [1, 2, 3] := sorted_the (ns := [1, 2, 3]) ((srt_perm ps).trans h) (srt_up ps) (List.Perm.refl _) (by decide)
    rw [e]
    rfl
  · rw [decide_eq_false h]
    cases e : srt ps == [1, 2, 3] with
    | false => rfl
    | true =>
      have e' : srt ps = [1, 2, 3] := by simpa using e
      exact absurd ((e' ▸ (srt_perm ps)).symm) h
theorem outside_no {a b c : Int} (h : decide ((0 : Int) < ((kept [a, b, c] (fun z => !Die.inR z) PyData.int).length : Nat)) = false) : Die.inR a = true ∧ Die.inR b = true ∧ Die.inR c = true := by
  have h0 := of_decide_eq_false h
  have hl : (kept [a, b, c] (fun z => !Die.inR z) PyData.int).length = 0 := by omega
  unfold kept at hl
  rw [List.length_map] at hl
  have hn := List.eq_nil_of_length_eq_zero hl
  rw [List.filter_eq_nil_iff] at hn
  refine ⟨?_, ?_, ?_⟩
  · have := hn a (by simp)
    simpa using this
  · have := hn b (by simp)
    simpa using this
  · have := hn c (by simp)
    simpa using this
theorem outside_yes {a b c : Int} (h : decide ((0 : Int) < ((kept [a, b, c] (fun z => !Die.inR z) PyData.int).length : Nat)) = true) : Die.isLie (a, b, c) = false := by
  cases e : Die.isLie (a, b, c) with
  | false => rfl
  | true =>
    obtain ⟨h1, h2, h3⟩ := Die.lie_in e
    have h0 := of_decide_eq_true h
    have hz : (kept [a, b, c] (fun z => !Die.inR z) PyData.int).length = 0 := by
      unfold kept
      rw [List.length_map, List.filter_eq_nil_iff.mpr]
      · rfl
      · intro z hz
        simp only [List.mem_cons, List.not_mem_nil, or_false] at hz
        rcases hz with rfl | rfl | rfl
        · simpa using h1
        · simpa using h2
        · simpa using h3
    omega
def rIsLie (ds : List PyData) (r : Out) : Prop := ∃ a b c : Int, ds = [tl a b c] ∧ r = .val (.bool (Die.isLie (a, b, c)))
local macro_rules | `(tactic| walk_at "rel") => `(tactic| first
  | exact ⟨_, _, _, rfl, by assumption, by assumption, by assumption, rfl⟩
  | exact ⟨[_, _, _], rfl, by show 3 ≤ 1000; decide, rfl⟩
  | exact ⟨_, _, _, rfl, rfl⟩)
section
variable {M : Md}
theorem fc_is_lie {f : Addr} {fd : FuncData} (F : Fun M.K "is_lie" "is_lie" s_is_lie f fd) (gm : M.mg "is_lie" = some (.ref f)) (bd : Binds M.K fd ["lie"] [])
    (hlen : M.mg "len" = none) (hsor : M.mg "sorted" = none) (cP : Fc M CX0 "pairs_of" 1 (spG M.K rPairs)) (cD : Fc M CX0 "disorder" 1 (spG M.K rDis)) : Fc M CX0 "is_lie" 2 (spG M.K rIsLie) := by
  refine fc_of F gm bd sc_is_lie (fun ds r h => ?_) (by decide) fun X o fs ds r h F0 H σ Q E S dn => ?_
  · obtain ⟨a, b, c, rfl, _⟩ := h
    rfl
  · obtain ⟨a, b, c, rfl, rfl⟩ := h
    refine s_cons ?_
    refine' t_if (c := decide ((0 : Int) < ((kept [a, b, c] (fun z => !Die.inR z) PyData.int).length : Nat)) || !(srt (Die.prs (a, b, c)) == [1, 2, 3])) S (XW.xb (w_or ?c1 fun h => w_or1 ?c2)) ?t ?f
    case c1 =>
      refine b_gt (XD.xh (x_len o.toOk0 hlen (XO.xd (o_lc o [("number", 1)] 1 PyData.int [a, b, c] (fun z => !Die.inR z) PyData.int S.le (.inr (by walk_at "xd")) (by decide +kernel) (by decide) rfl (by decide +kernel) (.inr ⟨_, rfl⟩) (by show 3 < 100000; decide) (fun z hm v F1 H1 g r => ?_) ?_)).xh (by decide +kernel))) x_int.xh
      · have S' := S.blk (vs := [1]) (j := 1) g r
        exact Blk.one (fun Y oY => by walk_at "xb") fun _ Y oY => by walk_at "xd"
      · intro h
        cases h
    case c2 =>
      obtain ⟨ha, hb, hc⟩ := outside_no h
      have ha := Die.inR_of ha
      have hb := Die.inR_of hb
      have hc := Die.inR_of hc
      refine XB.to (b_ne (d1 := .list ((srt (Die.prs (a, b, c))).map PyData.int)) (d2 := .list ([1, 2, 3].map PyData.int)) o (XD.xh (XO.xd (o_sortedI (ns := Die.prs (a, b, c)) o.toOk0 hsor (XO.xd ?_) (srt_perm _) (srt_up _)))) ?_ (pl_ints _) rfl) ?_
      · walk_at "ocall"
      · walk_at "xh"
      · rw [← eqv_ints]
        rfl
    case t =>
      intro h F' H' g S'
      have e : Die.isLie (a, b, c) = false := by
        cases h1 : decide ((0 : Int) < ((kept [a, b, c] (fun z => !Die.inR z) PyData.int).length : Nat)) with
        | true => exact outside_yes h1
        | false =>
          rw [h1, Bool.false_or, srt_iff] at h
          unfold Die.isLie
          have h2 : decide ((Die.prs (a, b, c)).Perm [1, 2, 3]) = false := by simpa using h
          rw [h2, Bool.and_false, Bool.false_and]
      rw [e] at dn
      exact s_one (t_done (E := E) S' (by walk_at "xd") (dn.grow g))
    case f =>
      intro h F' H' g S'
      refine s_nil ?_
      simp only [Bool.or_eq_false_iff] at h
      obtain ⟨h1, h2⟩ := h
      obtain ⟨ia, ib, ic⟩ := outside_no h1
      have ha := Die.inR_of ia
      have hb := Die.inR_of ib
      have hc := Die.inR_of ic
      rw [srt_iff] at h2
      have hp : decide ((Die.prs (a, b, c)).Perm [1, 2, 3]) = true := by simpa using h2
      refine s_cons ?_
      refine t_set o fs S' (d := .int ((kept [a, b, c] (fun n => decide (3 < n)) PyData.int).length : Nat)) (by walk_at "ix") (x_len o.toOk0 hlen (XO.xd (o_lc o [("number", 1)] 1 PyData.int [a, b, c] (fun z => decide (3 < z)) PyData.int S'.le (.inr (by walk_at "xd")) (by decide +kernel) (by decide) rfl (by decide +kernel) (.inr ⟨_, rfl⟩) (by show 3 < 100000; decide) (fun z hm v F1 H1 g r => ?_) ?_)).xh (by decide +kernel)) ?_ (by decide +kernel)
      · have S2 := S'.blk (vs := [1]) (j := 1) g r
        exact Blk.one (fun Y oY => by walk_at "xb") fun _ Y oY => by walk_at "xd"
      · intro h
        cases h
      · intro v F2 H2 g2 S2
        refine s_one (t_done (E := E) S2 ?_ ((dn.grow g).grow g2))
        have e : Die.isLie (a, b, c) = (((kept [a, b, c] (fun n => decide (3 < n)) PyData.int).length : Int) % 2 == Die.dis (Die.prs (a, b, c))) := by
          unfold Die.isLie
          rw [hp]
          simp only [ia, ib, ic, Bool.true_and, Bool.and_true]
          unfold Die.great kept Die.lst
          rw [List.length_map, Bool.beq_eq_decide_eq]
        rw [e]
        walk_at "xdt"

/-- must_be_lie(lie): nothing, or NoLie -/
def rMust (C : Addr) (ds : List PyData) (r : Out) : Prop := ∃ a b c : Int, ds = [tl a b c] ∧ ((Die.isLie (a, b, c) = true ∧ r = .val .none) ∨ (Die.isLie (a, b, c) = false ∧ r = .err C))
end
section
variable {M : Md}
theorem fc_must_be_lie {f C : Addr} {fd : FuncData} (F : Fun M.K "must_be_lie" "must_be_lie" s_must_be_lie f fd) (gm : M.mg "must_be_lie" = some (.ref f)) (bd : Binds M.K fd ["lie"] [])
    (ec : Ec M "NoLie" C) (cI : Fc M CX0 "is_lie" 2 (spG M.K rIsLie)) : Fc M (L2.CX M.P M.w) "must_be_lie" 3 (spG M.K (rMust C)) := by
  refine fc_ofX F gm bd sc_must_be_lie (fun ds r h => ?_) (by decide) fun X E o fs tk ds r h F0 H σ Q S dn => ?_
  · obtain ⟨a, b, c, rfl, _⟩ := h
    rfl
  · obtain ⟨a, b, c, rfl, h⟩ := h
    refine s_cons ?_
    refine' t_if (c := !Die.isLie (a, b, c)) S (b_not (b_val ?c1)) ?t ?f
    case c1 => walk_at "xd"
    case t =>
      intro hc F' H' g S'
      rcases h with ⟨h, rfl⟩ | ⟨h, rfl⟩
      · rw [h] at hc
        cases hc
      · exact s_one (t_raise o tk PySem.F.excBase_ValueError ec.xc ec.g ec.kp ec.sb ec.ty (dn F' H' g))
    case f =>
      intro hc F' H' g S'
      rcases h with ⟨h, rfl⟩ | ⟨h, rfl⟩
      · exact s_nil (s_nil (dn _ F' H' g .non))
      · rw [h] at hc
        cases hc
end
end Roll

namespace Roll
open PySem L2 Lay
/-! must_be_floor -/
def shortF (f : Flo.Rows) : Prop := f.length ≤ 1000 ∧ ∀ r ∈ f, r.length ≤ 1000
def rMustF (C : Addr) (ds : List PyData) (r : Out) : Prop := ∃ f : Flo.Rows, shortF f ∧ ds = [fl f] ∧ r = if Flo.okF f = true then .val .none else .err C
theorem okF_no {f : Flo.Rows} {r : List Nat} (hr : r ∈ f) (h : Flo.okRow (Flo.wid f) r = false) : Flo.okF f = false := by
  cases e : Flo.okF f with
  | false => rfl
  | true =>
    have := (Flo.okF_of e).2.2 r hr
    rw [h] at this
    cases this
theorem head_at {f : Flo.Rows} (h : 1 ≤ f.length) : ∃ r0, atI (f.map tS) 0 = some (tS r0) ∧ r0.length = Flo.wid f ∧ r0 ∈ f := by
  cases f with
  | nil => cases h
  | cons r t => exact ⟨r, atI_nat (j := 0) (show ((r :: t).map tS)[0]? = some (tS r) by rw [List.getElem?_map]; rfl), rfl, List.mem_cons_self⟩
section
variable {M : Md} {C : Addr}
theorem fc_must_be_floor {f : Addr} {fd : FuncData} (F : Fun M.K "must_be_floor" "must_be_floor" s_must_be_floor f fd) (gm : M.mg "must_be_floor" = some (.ref f)) (bd : Binds M.K fd ["floor"] [])
    (hlen : M.mg "len" = none) (hM : Gc M "MOST" (.int 8)) (ec : Ec M "NoFloor" C) : Fc M (L2.CX M.P M.w) "must_be_floor" 1 (spG M.K (rMustF C)) := by
  refine fc_ofX F gm bd sc_must_be_floor (fun ds r h => ?_) (by decide) fun X E o fs tk ds r h F0 H σ Q S dn => ?_
  · obtain ⟨f, _, rfl, _⟩ := h
    rfl
  · obtain ⟨f, ⟨hs1, hs2⟩, rfl, rfl⟩ := h
    refine s_cons ?_
    have hlf : ((f.map tS).length : Nat) = f.length := List.length_map tS
    refine' t_if (c := !(decide ((1 : Int) ≤ ((f.map tS).length : Nat)) && decide ((((f.map tS).length : Nat) : Int) ≤ 8))) S (b_not (b_lele x_int (x_len o.toOk0 hlen ?a (by decide +kernel)) ?b)) ?t ?f
    case a => walk_at "xh"
    case b => walk_at "xd"
    case t =>
      intro hc F1 H1 g1 S1
      have e : Flo.okF f = false := by
        cases e : Flo.okF f with
        | false => rfl
        | true =>
          obtain ⟨a, b, _⟩ := Flo.okF_of e
          rw [decide_eq_true (show (1 : Int) ≤ ((f.map tS).length : Nat) by omega), decide_eq_true (show (((f.map tS).length : Nat) : Int) ≤ 8 by omega)] at hc
          cases hc
      rw [e, if_neg Bool.false_ne_true] at dn
      exact s_one (t_raise o tk PySem.F.excBase_ValueError ec.xc ec.g ec.kp ec.sb ec.ty (dn F1 H1 g1))
    case f =>
      intro hc F1 H1 g1 S1
      have h18 : 1 ≤ f.length ∧ f.length ≤ 8 := by
        rw [Bool.not_eq_false', Bool.and_eq_true, decide_eq_true_eq, decide_eq_true_eq] at hc
        omega
      have dn := dn.grow g1
      obtain ⟨r0, hr0, hw, hm0⟩ := head_at h18.1
      have hb0 := hs2 r0 hm0
      have hz0 : (tx r0).length ≤ 100000 := by rw [tx_len]; omega
      refine s_nil (s_one ?_)
      refine t_for o fs S1 (by walk_at "ix") tS f (.inl (by walk_at "xd")) (fun i F' σ' H' => (Grow F1 H1 F' H' ∧ Stt M.K F' H' σ' [some (fl f), none, none]) ∧ (f.take i).all (Flo.okRow (Flo.wid f)) = true) ?_ ?_ ?_
      · intro F' H' g S'
        exact ⟨⟨g, S'.less ⟨.inr rfl, .inl rfl, .inl rfl, trivial⟩⟩, rfl⟩
      · rintro i r v F' σ' H' hi e1 e2 ⟨⟨g, S'⟩, ok⟩ rv
        have hmr : r ∈ f := List.mem_of_getElem? hi
        have hbr := hs2 r hmr
        have hz : (tx r).length ≤ 100000 := by rw [tx_len]; omega
        have S2 := S'.set (i := 1) rv
        refine s_cons ?_
        refine' t_if (c := !(decide ((1 : Int) ≤ ((tx r).length : Nat)) && decide ((((tx r).length : Nat) : Int) ≤ 8)) || !((((tx r).length : Nat) : Int) == (((tx r0).length : Nat) : Int))) S2 (XW.xb (w_or (b_not (b_lele x_int (x_lenS o.toOk0 hlen ?a1 hz (by decide +kernel)) ?b1)) fun _ => w_or1 (b_ne o (XD.xh (x_lenS o.toOk0 hlen ?a2 hz (by decide +kernel))) (XD.xh (x_lenS o.toOk0 hlen (XD.xh (x_ixL o.toOk0 ?b2 x_int hr0)) hz0 (by decide +kernel))) rfl rfl))) ?t1 ?f1
        case a1 => walk_at "xh"
        case b1 => walk_at "xd"
        case a2 => walk_at "xh"
        case b2 => walk_at "xd"
        case t1 =>
          intro hc F3 H3 g3 S3
          have e : Flo.okF f = false := by
            refine okF_no hmr ?_
            cases e : Flo.okRow (Flo.wid f) r with
            | false => rfl
            | true =>
              obtain ⟨a, b, c, _⟩ := Flo.okRow_len e
              rw [tx_len, tx_len, decide_eq_true (show (1 : Int) ≤ (r.length : Nat) by omega), decide_eq_true (show ((r.length : Nat) : Int) ≤ 8 by omega), show r.length = r0.length by omega, beq_self_eq_true] at hc
              cases hc
          rw [e, if_neg Bool.false_ne_true] at dn
          exact s_one (t_raise o tk PySem.F.excBase_ValueError ec.xc ec.g ec.kp ec.sb ec.ty (dn F3 H3 (g.trans g3)))
        case f1 =>
          intro hc F3 H3 g3 S3
          have hr : (1 ≤ r.length ∧ r.length ≤ 8) ∧ r.length = Flo.wid f := by
            rw [tx_len, tx_len, Bool.or_eq_false_iff, Bool.not_eq_false', Bool.not_eq_false', Bool.and_eq_true, decide_eq_true_eq, decide_eq_true_eq, beq_iff_eq] at hc
            omega
          refine s_nil (s_one ?_)
          refine t_forS o fs S3 (by walk_at "ix") (tx r) (by walk_at "xd") (fun j F4 σ4 H4 => (Grow F1 H1 F4 H4 ∧ Stt M.K F4 H4 σ4 [some (fl f), some (tS r), none]) ∧ (r.take j).all Flo.isSign = true) ?_ ?_ ?_
          · intro F4 H4 g4 S4
            exact ⟨⟨(g.trans g3).trans g4, S4.less ⟨.inr rfl, .inr rfl, .inl rfl, trivial⟩⟩, rfl⟩
          · rintro j c F4 σ4 H4 hj e3 e4 ⟨⟨g4, S4⟩, okj⟩
            have hj' := tx_at hj
            have S5 := S4.set (i := 2) (v := .str ⟨#[c]⟩) (d := .str ⟨#[c]⟩) (.str _)
            refine s_one ?_
            refine' t_if (c := !Flo.isSign c) S5 (XB.to (b_ninS (z := ".#") ?a3 x_str) ?e3) ?t3 ?f3
            case a3 => walk_at "xd"
            case e3 =>
              rw [signs_list]
              rfl
            case t3 =>
              intro hc F6 H6 g6 S6
              have hc : Flo.isSign c = false := by rw [Bool.not_eq_true'] at hc; exact hc
              have e : Flo.okF f = false := by
                refine okF_no hmr ?_
                cases e : Flo.okRow (Flo.wid f) r with
                | false => rfl
                | true =>
                  have h5 := List.all_eq_true.mp (Flo.okRow_len e).2.2.2 c (List.mem_of_getElem? hj')
                  rw [hc] at h5
                  cases h5
              rw [e, if_neg Bool.false_ne_true] at dn
              exact s_one (t_raise o tk PySem.F.excBase_ValueError ec.xc ec.g ec.kp ec.sb ec.ty (dn F6 H6 (g4.trans g6)))
            case f3 =>
              intro hc F6 H6 g6 S6
              have hc : Flo.isSign c = true := by rw [Bool.not_eq_false'] at hc; exact hc
              refine s_nil ⟨F6, g6.ex, g6.le, ⟨g4.trans g6, S6.less ⟨.inr rfl, .inr rfl, .inl rfl, trivial⟩⟩, ?_⟩
              rw [take_snoc hj', List.all_append, okj]
              show (true && (Flo.isSign c && true)) = true
              rw [hc]
              rfl
          · rintro F4 σ4 H4 e3 e4 ⟨⟨g4, S4⟩, okj⟩
            rw [tx_size, List.take_of_length_le (Nat.le_refl _)] at okj
            refine ⟨F4, g3.ex.trans e3, e4, ⟨g4, S4.less ⟨.inr rfl, .inl rfl, .inl rfl, trivial⟩⟩, ?_⟩
            have er : Flo.okRow (Flo.wid f) r = true := by
              unfold Flo.okRow
              rw [okj, decide_eq_true hr.1.1, decide_eq_true hr.1.2, decide_eq_true hr.2]
              rfl
            rw [take_snoc hi, List.all_append, ok]
            show (true && (Flo.okRow (Flo.wid f) r && true)) = true
            rw [er]
            rfl
      · rintro F' σ' H' e1 e2 ⟨⟨g, S'⟩, ok⟩
        rw [List.take_of_length_le (Nat.le_refl _)] at ok
        have e : Flo.okF f = true := by
          unfold Flo.okF
          rw [ok, decide_eq_true h18.1, decide_eq_true h18.2]
          rfl
        rw [e, if_pos rfl] at dn
        exact dn _ F' H' g .non
end
end Roll

namespace Roll
open PySem L2 Lay
/-! floors as data: lengths, codes, equality -/
theorem row_len {f : Flo.Rows} (h : Flo.okF f = true) {r : List Nat} (hr : r ∈ f) : 1 ≤ r.length ∧ r.length ≤ 8 := by
  have := Flo.okRow_len ((Flo.okF_of h).2.2 r hr)
  exact ⟨this.2.1, this.2.2.1⟩
def codesF (f : Flo.Rows) : Prop := ∀ r ∈ f, ∀ c ∈ r, c < 1114112
theorem sign_code {c : Nat} (h : Flo.isSign c = true) : c < 1114112 := by
  unfold Flo.isSign at h
  have := of_decide_eq_true h
  simp only [List.mem_cons, List.not_mem_nil, or_false] at this
  omega
theorem okF_codes {f : Flo.Rows} (h : Flo.okF f = true) : codesF f := fun r hr c hc => sign_code (List.all_eq_true.mp (Flo.okRow_len ((Flo.okF_of h).2.2 r hr)).2.2.2 c hc)
theorem tx_ok {r : List Nat} (h : ∀ c ∈ r, c < 1114112) : (PyData.str (tx r)).canLay0 = true := by
  show (tx r).cps.all (· < 1114112) = true
  unfold tx
  rw [List.all_toArray]
  exact List.all_eq_true.mpr fun c hc => decide_eq_true (h c hc)
theorem pl_fl {f : Flo.Rows} (h : codesF f) : Pl (fl f) := pl_list fun d hd => by
  obtain ⟨r, hr, rfl⟩ := List.mem_map.mp hd
  exact tx_ok (h r hr)
theorem eqv_str (z : Str) : PyData.eqv (.str z) (.str z) = true := by
  show (z == z) = true
  simp
theorem eqvAll_tS : ∀ f : Flo.Rows, PyData.eqvAll (f.map tS) (f.map tS) = true
  | [] => rfl
  | r :: t => by
    show (PyData.eqv (tS r) (tS r) && PyData.eqvAll (t.map tS) (t.map tS)) = true
    rw [eqv_str, eqvAll_tS t]
    rfl
theorem okF_short {f : Flo.Rows} (h : Flo.okF f = true) : shortF f := by
  obtain ⟨h1, h2, h3⟩ := Flo.okF_of h
  refine ⟨by omega, fun r hr => ?_⟩
  have := row_len h hr
  omega
end Roll

namespace Roll
open PySem L2 Lay
section
variable {M : Md} {C : Addr}
theorem fc_rolled_by {f : Addr} {fd : FuncData} (F : Fun M.K "rolled_by" "rolled_by" s_rolled_by f fd) (gm : M.mg "rolled_by" = some (.ref f)) (bd : Binds M.K fd ["lie", "roll"] []) : Fc M CX0 "rolled_by" 1 (spG M.K rRoll) := by
  refine fc_of F gm bd sc_rolled_by (fun ds r h => ?_) (by decide) fun X o fs ds r h F0 H σ Q E S dn => ?_
  · obtain ⟨a, b, c, g, rfl, _⟩ := h
    rfl
  · obtain ⟨a, b, c, u, rfl, rfl⟩ := h
    refine s_cons (t_unpack3 o fs S (by walk_at "ix") (by walk_at "ix") (by walk_at "ix") (by walk_at "xd") (fun v1 v2 v3 F1 H1 g1 S1 => ?_) (by decide +kernel) (by decide +kernel) (by decide +kernel))
    have dn := dn.grow g1
    refine s_cons ?_
    walk_at "if"
    · intro hc F' H' g S'
      rw [sign_n, sign_eq] at hc
      have hc := of_decide_eq_true hc
      refine s_one (t_done (E := E) S' ?_ (dn.grow g))
      unfold Die.roll
      rw [if_pos hc]
      walk_at "xdt"
    · intro hc F' H' g S'
      rw [sign_n, sign_eq] at hc
      have n1 := of_decide_eq_false hc
      refine s_nil (s_cons ?_)
      walk_at "if"
      · intro hc F2 H2 g2 S'
        rw [sign_s, sign_eq] at hc
        have hc := of_decide_eq_true hc
        refine s_one (t_done (E := E) S' ?_ ((dn.grow g).grow g2))
        unfold Die.roll
        rw [if_neg n1, if_pos hc]
        walk_at "xdt"
      · intro hc F2 H2 g2 S'
        rw [sign_s, sign_eq] at hc
        have n2 := of_decide_eq_false hc
        refine s_nil (s_cons ?_)
        walk_at "if"
        · intro hc F3 H3 g3 S'
          rw [sign_e, sign_eq] at hc
          have hc := of_decide_eq_true hc
          refine s_one (t_done (E := E) S' ?_ (((dn.grow g).grow g2).grow g3))
          unfold Die.roll
          rw [if_neg n1, if_neg n2, if_pos hc]
          walk_at "xdt"
        · intro hc F3 H3 g3 S'
          rw [sign_e, sign_eq] at hc
          have n3 := of_decide_eq_false hc
          refine s_nil (s_one (t_done (E := E) S' ?_ (((dn.grow g).grow g2).grow g3)))
          unfold Die.roll
          rw [if_neg n1, if_neg n2, if_neg n3]
          walk_at "xdt"
end
end Roll

namespace Roll
open PySem L2 Lay
/-! is_cell, must_be_cell, must_be_stand, next_stand -/
def rIsCell (ds : List PyData) (r : Out) : Prop := ∃ (f : Flo.Rows) (p : Sta.P2), Flo.okF f = true ∧ ds = [fl f, tP p] ∧ r = .val (.bool (Sta.isCell f p))
def rMustC (C : Addr) (ds : List PyData) (r : Out) : Prop := ∃ (f : Flo.Rows) (p : Sta.P2), Flo.okF f = true ∧ ds = [fl f, tP p] ∧ r = if Sta.isCell f p = true then .val .none else .err C
def rMustS (C1 C2 : Addr) (ds : List PyData) (r : Out) : Prop := ∃ (f : Flo.Rows) (s : Sta.Sd), Flo.okF f = true ∧ ds = [fl f, tSd s] ∧ r = if Sta.isCell f s.1 = true then (if Die.isLie s.2 = true then .val .none else .err C2) else .err C1
abbrev oS (o : Option Sta.Sd) : PyData := match o with
  | none => .none
  | some s => tSd s
def rNext (ds : List PyData) (r : Out) : Prop := ∃ (f : Flo.Rows) (s : Sta.Sd) (c : Nat), (Flo.okF f = true ∧ decide (c ∈ ([101, 110, 115, 119] : List Nat)) = true) ∧ ds = [fl f, tSd s, .str ⟨#[c]⟩] ∧ r = .val (oS (Sta.next f s c))
theorem row_at {f : Flo.Rows} {i : Nat} (h : i < f.length) : ∃ r, atI (f.map tS) (i : Int) = some (tS r) ∧ r ∈ f ∧ f.getD i [] = r := by
  refine ⟨f[i], ?_, List.getElem_mem h, ?_⟩
  · exact atI_nat (by rw [List.getElem?_map, List.getElem?_eq_getElem h]; rfl)
  · rw [List.getD_eq_getElem?_getD, List.getElem?_eq_getElem h]
    rfl
theorem sign_at {f : Flo.Rows} {i j : Nat} {r : List Nat} (hr : f.getD i [] = r) (h : j < r.length) : atI (tx r).cps.toList (j : Int) = some (Sta.sgn f i j) := by
  rw [tx_list]
  refine atI_nat ?_
  unfold Sta.sgn
  rw [hr, List.getD_eq_getElem?_getD, List.getElem?_eq_getElem h]
  rfl
theorem wid_row {f : Flo.Rows} (h : Flo.okF f = true) {r : List Nat} (hr : r ∈ f) : r.length = Flo.wid f := (Flo.okRow_len ((Flo.okF_of h).2.2 r hr)).1
section
variable {M : Md} {C1 C2 : Addr}
theorem fc_is_cell {f : Addr} {fd : FuncData} (F : Fun M.K "is_cell" "is_cell" s_is_cell f fd) (gm : M.mg "is_cell" = some (.ref f)) (bd : Binds M.K fd ["floor", "place"] [])
    (hlen : M.mg "len" = none) : Fc M CX0 "is_cell" 1 (spG M.K rIsCell) := by
  refine fc_of F gm bd sc_is_cell (fun ds r h => ?_) (by decide) fun X o fs ds r h F0 H σ Q E S dn => ?_
  · obtain ⟨f, p, _, rfl, _⟩ := h
    rfl
  · obtain ⟨f, p, hf, rfl, rfl⟩ := h
    obtain ⟨a, b⟩ := p
    obtain ⟨hl1, hl2, _⟩ := Flo.okF_of hf
    have hlm : ((f.map tS).length : Nat) = f.length := List.length_map tS
    obtain ⟨r0, hr0, hw0, hm0⟩ := head_at hl1
    have hz0 : (tx r0).length ≤ 100000 := by rw [tx_len]; have := row_len hf hm0; omega
    generalize hc1 : (decide ((0 : Int) ≤ a) && decide (a < ((f.map tS).length : Nat))) = c1
    generalize hc2 : (decide ((0 : Int) ≤ b) && decide (b < ((tx r0).length : Nat))) = c2
    refine s_cons ?_
    refine' t_if (c := !c1 || !c2) S (XW.xb (w_or (XB.to (b_not (b_lelt (i := 0) (j := a) (l := ((f.map tS).length : Nat)) x_int ?a1 (x_len o.toOk0 hlen ?a2 (by decide +kernel)))) (by rw [hc1])) fun _ => w_or1 (XB.to (b_not (b_lelt (i := 0) (j := b) (l := ((tx r0).length : Nat)) x_int ?a3 (x_lenS o.toOk0 hlen (XD.xh (x_ixL (ds := f.map tS) o.toOk0 ?a4 x_int hr0)) hz0 (by decide +kernel)))) (by rw [hc2])))) ?t ?f
    case a1 => walk_at "xd"
    case a2 => walk_at "xh"
    case a3 => walk_at "xd"
    case a4 => walk_at "xd"
    case t =>
      intro hc F1 H1 g1 S1
      have e : Sta.isCell f (a, b) = false := by
        unfold Sta.isCell
        rw [tx_len, hw0] at hc2
        rw [hlm] at hc1
        show (decide (0 ≤ a) && decide (a < (f.length : Nat)) && (decide (0 ≤ b) && decide (b < (Flo.wid f : Nat))) && _) = false
        rw [hc1, hc2]
        rw [Bool.or_eq_true, Bool.not_eq_true', Bool.not_eq_true'] at hc
        rcases hc with h | h <;> rw [h] <;> simp
      rw [e] at dn
      exact s_one (t_done (E := E) S1 (by walk_at "xd") (dn.grow g1))
    case f =>
      intro hc F1 H1 g1 S1
      rw [Bool.or_eq_false_iff, Bool.not_eq_false', Bool.not_eq_false'] at hc
      obtain ⟨h1, h2⟩ := hc
      rw [h1] at hc1
      rw [h2] at hc2
      have e : Sta.isCell f (a, b) = decide (Sta.sgn f a.toNat b.toNat = 46) := by
        unfold Sta.isCell
        rw [tx_len, hw0] at hc2
        rw [hlm] at hc1
        show (decide (0 ≤ a) && decide (a < (f.length : Nat)) && (decide (0 ≤ b) && decide (b < (Flo.wid f : Nat))) && _) = _
        rw [hc1, hc2]
        simp
      simp only [Bool.and_eq_true, decide_eq_true_eq] at hc1 hc2
      obtain ⟨i, hi⟩ := Int.eq_ofNat_of_zero_le hc1.1
      obtain ⟨j, hj⟩ := Int.eq_ofNat_of_zero_le hc2.1
      subst hi hj
      obtain ⟨r, hr, hmr, hgr⟩ := row_at (f := f) (i := i) (by omega)
      have hwr := wid_row hf hmr
      have hjr : j < r.length := by
        have := hc2.2
        rw [tx_len, hw0] at this
        omega
      have hs := sign_at hgr hjr
      have hz : (tx r).length ≤ 100000 := by rw [tx_len]; have := row_len hf hmr; omega
      rw [e] at dn
      refine s_nil (s_one (t_done (E := E) S1 ?_ (dn.grow g1)))
      refine XD.to (x_eqS (y := ⟨#[Sta.sgn f i j]⟩) (z := ".") (XD.xh (x_ixS (z := tx r) (x_ixL (ds := f.map tS) o.toOk0 ?b1 ?b2 hr) ?b3 hz hs)) x_str.xh) ?b4
      case b1 => walk_at "xd"
      case b2 => walk_at "xd"
      case b3 => walk_at "xd"
      case b4 =>
        rw [sign_dot, sign_eq]
        rfl
end
local macro_rules | `(tactic| walk_at "rel") => `(tactic| first
  | exact ⟨_, _, by assumption, rfl, rfl⟩
  | exact ⟨_, (_, _), by assumption, rfl, rfl⟩
  | exact ⟨_, _, _, _, rfl, rfl⟩)
section
variable {M : Md} {C1 C2 : Addr}
theorem fc_must_be_cell {f : Addr} {fd : FuncData} (F : Fun M.K "must_be_cell" "must_be_cell" s_must_be_cell f fd) (gm : M.mg "must_be_cell" = some (.ref f)) (bd : Binds M.K fd ["floor", "place"] [])
    (ec : Ec M "NoCell" C1) (cI : Fc M CX0 "is_cell" 1 (spG M.K rIsCell)) : Fc M (L2.CX M.P M.w) "must_be_cell" 2 (spG M.K (rMustC C1)) := by
  refine fc_ofX F gm bd sc_must_be_cell (fun ds r h => ?_) (by decide) fun X E o fs tk ds r h F0 H σ Q S dn => ?_
  · obtain ⟨f, p, _, rfl, _⟩ := h
    rfl
  · obtain ⟨f, p, hf, rfl, rfl⟩ := h
    refine s_one ?_
    refine' t_if (c := !Sta.isCell f p) S (b_not (b_val (x_call o cI pz0 ?a ⟨_, p, hf, rfl, rfl⟩ (by decide) (by decide +kernel)))) ?t ?f
    case a => walk_at "xa"
    case t =>
      intro hc F1 H1 g1 S1
      rw [Bool.not_eq_true'] at hc
      rw [hc, if_neg Bool.false_ne_true] at dn
      exact s_one (t_raise o tk PySem.F.excBase_ValueError ec.xc ec.g ec.kp ec.sb ec.ty (dn F1 H1 g1))
    case f =>
      intro hc F1 H1 g1 S1
      rw [Bool.not_eq_false'] at hc
      rw [hc, if_pos rfl] at dn
      exact s_nil (dn _ F1 H1 g1 .non)
theorem fc_must_be_stand {f : Addr} {fd : FuncData} (F : Fun M.K "must_be_stand" "must_be_stand" s_must_be_stand f fd) (gm : M.mg "must_be_stand" = some (.ref f)) (bd : Binds M.K fd ["floor", "stand"] [])
    (cC : Fc M (L2.CX M.P M.w) "must_be_cell" 2 (spG M.K (rMustC C1))) (cL : Fc M (L2.CX M.P M.w) "must_be_lie" 3 (spG M.K (rMust C2))) : Fc M (L2.CX M.P M.w) "must_be_stand" 4 (spG M.K (rMustS C1 C2)) := by
  refine fc_ofX F gm bd sc_must_be_stand (fun ds r h => ?_) (by decide) fun X E o fs tk ds r h F0 H σ Q S dn => ?_
  · obtain ⟨f, p, _, rfl, _⟩ := h
    rfl
  · obtain ⟨f, s, hf, rfl, rfl⟩ := h
    refine s_cons ?_
    refine s_must o tk S cC (by walk_at "xa") ⟨f, s.1, hf, rfl, rfl⟩ (by decide) (by decide +kernel) (by decide +kernel) ?_
    cases h1 : Sta.isCell f s.1 with
    | false =>
      rw [h1, if_neg Bool.false_ne_true] at dn
      rw [if_neg Bool.false_ne_true]
      exact dn
    | true =>
      rw [h1, if_pos rfl] at dn
      rw [if_pos rfl]
      intro v F1 H1 g1 _
      have S1 := S.grow g1
      have dn := dn.grow g1
      refine s_one ?_
      cases h2 : Die.isLie s.2 with
      | false =>
        rw [h2, if_neg Bool.false_ne_true] at dn
        exact s_must o tk S1 cL (by walk_at "xa") ⟨s.2.1, s.2.2.1, s.2.2.2, rfl, .inr ⟨h2, rfl⟩⟩ (by decide) (by decide +kernel) (by decide +kernel) dn
      | true =>
        rw [h2, if_pos rfl] at dn
        refine s_must o tk S1 cL (by walk_at "xa") ⟨s.2.1, s.2.2.1, s.2.2.2, rfl, .inl ⟨h2, rfl⟩⟩ (by decide) (by decide +kernel) (by decide +kernel) fun v F2 H2 g2 _ => ?_
        exact dn _ F2 H2 g2 .non
theorem fc_next_stand {f : Addr} {fd : FuncData} (F : Fun M.K "next_stand" "next_stand" s_next_stand f fd) (gm : M.mg "next_stand" = some (.ref f)) (bd : Binds M.K fd ["floor", "stand", "roll"] [])
    (st : Steps M) (cI : Fc M CX0 "is_cell" 1 (spG M.K rIsCell)) (cR : Fc M CX0 "rolled_by" 1 (spG M.K rRoll)) : Fc M CX0 "next_stand" 2 (spG M.K rNext) := by
  refine fc_of F gm bd sc_next_stand (fun ds r h => ?_) (by decide) fun X o fs ds r h F0 H σ Q E S dn => ?_
  · obtain ⟨f, s, c, _, rfl, _⟩ := h
    rfl
  · obtain ⟨f, s, c, ⟨hf, hc⟩, rfl, rfl⟩ := h
    rw [← Sta.step_letter] at hc
    obtain ⟨d, hd⟩ := Option.isSome_iff_exists.mp hc
    refine s_cons (t_set (d := tP d) o fs S (by walk_at "ix") (x_ixSteps o st (by walk_at "xd") hd (by decide +kernel)) (fun v1 F1 H1 g1 S1 => ?_) (by decide +kernel))
    refine s_cons ?_
    walk_at "set"
    intro v2 F2 H2 g2 S2
    have en : Sta.next f s c = if Sta.isCell f (s.1.1 + d.1, s.1.2 + d.2) = true then some ((s.1.1 + d.1, s.1.2 + d.2), Die.roll s.2 c) else none := by
      unfold Sta.next
      rw [hd]
    rw [en] at dn
    have dn := (dn.grow g1).grow g2
    refine s_cons ?_
    refine' t_if (c := !Sta.isCell f (s.1.1 + d.1, s.1.2 + d.2)) S2 (b_not (b_val (x_call o cI pz0 ?a ⟨_, (s.1.1 + d.1, s.1.2 + d.2), hf, rfl, rfl⟩ (by decide) (by decide +kernel)))) ?t ?f
    case a => walk_at "xa"
    case t =>
      intro hc F3 H3 g3 S3
      rw [Bool.not_eq_true'] at hc
      rw [hc, if_neg Bool.false_ne_true] at dn
      exact s_one (t_done (E := E) S3 (by walk_at "xd") (dn.grow g3))
    case f =>
      intro hc F3 H3 g3 S3
      rw [Bool.not_eq_false'] at hc
      rw [hc, if_pos rfl] at dn
      refine s_nil (s_one (t_done (E := E) S3 ?_ (dn.grow g3)))
      refine XD.to (x_tup (a_cons ?b1 (a_cons (x_call o cR pz0 ?b2 ⟨s.2.1, s.2.2.1, s.2.2.2, c, rfl, rfl⟩ (by decide) (by decide +kernel)) a_nil)) (Nat.le_of_ble_eq_true rfl)) rfl
      case b1 => walk_at "xd"
      case b2 => walk_at "xa"
end
end Roll

namespace Roll
open PySem L2 Lay
def walkedO (C0 C1 C2 C3 : Addr) (f : Flo.Rows) (s : Sta.Sd) (cs : List Nat) : Out := if Flo.okF f = true then (if Sta.isCell f s.1 = true then (if Die.isLie s.2 = true then (match Sta.walk f s cs with
  | some t => .val (tSd t)
  | none => .err C3) else .err C2) else .err C1) else .err C0
def rWalked (C0 C1 C2 C3 : Addr) (ds : List PyData) (r : Out) : Prop := ∃ (f : Flo.Rows) (s : Sta.Sd) (cs : List Nat), shortF f ∧ ds = [fl f, tSd s, .str (tx cs)] ∧ r = walkedO C0 C1 C2 C3 f s cs
section
variable {M : Md} {C0 C1 C2 C3 : Addr}
theorem fc_walked {f : Addr} {fd : FuncData} (F : Fun M.K "walked" "walked" s_walked f fd) (gm : M.mg "walked" = some (.ref f)) (bd : Binds M.K fd ["floor", "stand", "rolls"] [])
    (st : Steps M) (ec : Ec M "NoRoll" C3) (cF : Fc M (L2.CX M.P M.w) "must_be_floor" 1 (spG M.K (rMustF C0))) (cS : Fc M (L2.CX M.P M.w) "must_be_stand" 4 (spG M.K (rMustS C1 C2))) (cN : Fc M CX0 "next_stand" 2 (spG M.K rNext)) : Fc M (L2.CX M.P M.w) "walked" 5 (spG M.K (rWalked C0 C1 C2 C3)) := by
  refine fc_ofX F gm bd sc_walked (fun ds r h => ?_) (by decide) fun X E o fs tk ds r h F0 H σ Q S dn => ?_
  · obtain ⟨f, s, cs, _, rfl, _⟩ := h
    rfl
  · obtain ⟨f, s, cs, hs, rfl, rfl⟩ := h
    unfold walkedO at dn
    refine s_cons ?_
    refine s_must o tk S cF (by walk_at "xa") ⟨f, hs, rfl, rfl⟩ (by decide) (by decide +kernel) (by decide +kernel) ?_
    cases h0 : Flo.okF f with
    | false =>
      rw [h0, if_neg Bool.false_ne_true] at dn
      rw [if_neg Bool.false_ne_true]
      exact dn
    | true =>
      rw [h0, if_pos rfl] at dn
      rw [if_pos rfl]
      intro v F1 H1 g1 _
      have S1 := S.grow g1
      have dn := dn.grow g1
      refine s_cons ?_
      refine s_must o tk S1 cS (by walk_at "xa") ⟨f, s, h0, rfl, rfl⟩ (by decide) (by decide +kernel) (by decide +kernel) ?_
      cases h1 : Sta.isCell f s.1 with
      | false =>
        rw [h1, if_neg Bool.false_ne_true] at dn
        rw [if_neg Bool.false_ne_true]
        exact dn
      | true =>
        rw [h1, if_pos rfl] at dn
        rw [if_pos rfl]
        cases h2 : Die.isLie s.2 with
        | false =>
          rw [h2, if_neg Bool.false_ne_true] at dn
          rw [if_neg Bool.false_ne_true]
          exact dn
        | true =>
          rw [h2, if_pos rfl] at dn
          rw [if_pos rfl]
          intro v F2 H2 g2 _
          have S2 := S1.grow g2
          have dn := dn.grow g2
          refine s_cons ?_
          refine t_forS o fs S2 (by walk_at "ix") (tx cs) (by walk_at "xd") (fun i F' σ' H' => ∃ t : Sta.Sd, Sta.walk f s (cs.take i) = some t ∧ Grow F2 H2 F' H' ∧ Stt M.K F' H' σ' [some (fl f), some (tSd t), some (.str (tx cs)), none, none]) ?_ ?_ ?_
          · intro F' H' g S'
            exact ⟨s, rfl, g, S'.less ⟨.inr rfl, .inr rfl, .inr rfl, .inl rfl, .inl rfl, trivial⟩⟩
          · rintro i c F' σ' H' hi e1 e2 ⟨t, ht, g, S'⟩
            have hi' := tx_at hi
            have dn := dn.grow g
            have S3 := S'.set (i := 3) (v := .str ⟨#[c]⟩) (d := .str ⟨#[c]⟩) (.str _)
            have hw : Sta.walk f s (cs.take (i + 1)) = Sta.next f t c := by
              rw [take_snoc hi', Sta.walk_snoc, ht]
              rfl
            have hno : Sta.next f t c = none → Sta.walk f s cs = none := fun hn => by
              rw [← List.take_append_drop (i + 1) cs, Sta.walk_app, hw, hn]
              rfl
            refine s_cons ?_
            refine' t_if (c := !(Sta.stepC c).isSome) S3 (b_ninSteps o st (by walk_at "xd") (by decide +kernel)) ?ta ?fa
            case ta =>
              intro hc F4 H4 g4 S4
              rw [Bool.not_eq_true'] at hc
              have hsn : Sta.stepC c = none := by
                cases e : Sta.stepC c with
                | none => rfl
                | some d => rw [e] at hc; cases hc
              have hn : Sta.next f t c = none := by
                unfold Sta.next
                rw [hsn]
              rw [hno hn] at dn
              exact s_one (t_raise o tk PySem.F.excBase_ValueError ec.xc ec.g ec.kp ec.sb ec.ty (dn F4 H4 g4))
            case fa =>
              intro hc F4 H4 g4 S4
              rw [Bool.not_eq_false'] at hc
              rw [Sta.step_letter] at hc
              refine s_nil (s_cons (t_set (d := oS (Sta.next f t c)) o fs S4 (by walk_at "ix") (x_call o cN pz0 (by walk_at "xa") ⟨f, t, c, ⟨h0, hc⟩, rfl, rfl⟩ (by decide) (by decide +kernel)) (fun v5 F5 H5 g5 S5 => ?_) (by decide +kernel)))
              have dn := (dn.grow g4).grow g5
              refine s_cons ?_
              cases hn : Sta.next f t c with
              | none =>
                rw [hn] at S5
                refine' t_if (c := true) S5 (XB.to (b_isN (d1 := .none) ?q1) rfl) ?t2 (fun z => Bool.noConfusion z)
                case q1 => exact XD.xh (d := .none) (by walk_at "xd")
                case t2 =>
                  intro _ F6 H6 g6 S6
                  rw [hno hn] at dn
                  exact s_one (t_raise o tk PySem.F.excBase_ValueError ec.xc ec.g ec.kp ec.sb ec.ty (dn F6 H6 g6))
              | some u =>
                rw [hn] at S5 hw
                refine' t_if (c := false) S5 (XB.to (b_isN (d1 := tSd u) ?q2) rfl) (fun z => Bool.noConfusion z) ?t3
                case q2 => exact XD.xh (d := tSd u) (by walk_at "xd")
                case t3 =>
                  intro _ F6 H6 g6 S6
                  refine s_nil (s_one (t_set (d := tSd u) o fs S6 (by walk_at "ix") (by walk_at "xd") (fun v7 F7 H7 g7 S7 => ?_) (by decide +kernel)))
                  exact ⟨F7, ((g4.ex.trans g5.ex).trans g6.ex).trans g7.ex, g7.le, u, hw, (((g.trans g4).trans g5).trans g6).trans g7, S7.less ⟨.inr rfl, .inr rfl, .inr rfl, .inl rfl, .inl rfl, trivial⟩⟩
          · rintro F' σ' H' e1 e2 ⟨t, ht, g, S'⟩
            rw [tx_size, List.take_of_length_le (Nat.le_refl _)] at ht
            rw [ht] at dn
            exact s_one (t_done (E := E) S' (by walk_at "xd") (dn.grow g))
end
end Roll

namespace Roll
open PySem L2 Lay
/-! the law's cells, its next stand -/
def rCells (ds : List PyData) (r : Out) : Prop := ∃ f : Flo.Rows, Flo.okF f = true ∧ ds = [fl f] ∧ r = .own ((Sta.cells f).map tP)
def cellsTo (f : Flo.Rows) (n : Nat) : List Sta.P2 := (List.range n).flatMap fun i => ((List.range (Flo.wid f)).filter fun j : Nat => decide (Sta.sgn f i j = 46)).map fun j : Nat => ((i : Int), (j : Int))
theorem cellsTo_snoc (f : Flo.Rows) (n : Nat) : cellsTo f (n + 1) = cellsTo f n ++ ((List.range (Flo.wid f)).filter fun j : Nat => decide (Sta.sgn f n j = 46)).map fun j : Nat => ((n : Int), (j : Int)) := by
  unfold cellsTo
  rw [List.range_succ, List.flatMap_append]
  simp
theorem cellsTo_len (f : Flo.Rows) (n : Nat) : (cellsTo f n).length ≤ Flo.wid f * n := by
  induction n with
  | zero => exact Nat.zero_le _
  | succ n ih =>
    rw [cellsTo_snoc, List.length_append, List.length_map, Nat.mul_succ]
    have := List.length_filter_le (fun j : Nat => decide (Sta.sgn f n j = 46)) (List.range (Flo.wid f))
    rw [List.length_range] at this
    omega
theorem wid_le {f : Flo.Rows} (h : Flo.okF f = true) : 1 ≤ Flo.wid f ∧ Flo.wid f ≤ 8 := by
  obtain ⟨h1, _, _⟩ := Flo.okF_of h
  obtain ⟨r0, _, hw, hm⟩ := head_at h1
  have := row_len h hm
  omega
theorem cells_len {f : Flo.Rows} (h : Flo.okF f = true) : (Sta.cells f).length ≤ 64 := by
  have h1 := cellsTo_len f f.length
  have h2 := (wid_le h).2
  have h3 := (Flo.okF_of h).2.1
  have : Flo.wid f * f.length ≤ 8 * 8 := Nat.mul_le_mul h2 h3
  exact Nat.le_trans h1 this
section
variable {M : Md}
theorem fc_law_cells {f : Addr} {fd : FuncData} (F : Fun M.K "_law_cells" "_law_cells" s__law_cells f fd) (gm : M.mg "_law_cells" = some (.ref f)) (bd : Binds M.K fd ["floor"] [])
    (hran : M.mg "range" = none) (hlen : M.mg "len" = none) : Fc M CX0 "_law_cells" 1 (spG M.K rCells) := by
  refine fc_of F gm bd sc__law_cells (fun ds r h => ?_) (by decide) fun X o fs ds r h F0 H σ Q E S dn => ?_
  · obtain ⟨f, _, rfl, _⟩ := h
    rfl
  · obtain ⟨f, hf, rfl, rfl⟩ := h
    obtain ⟨hl1, hl2, _⟩ := Flo.okF_of hf
    have hlm : ((f.map tS).length : Nat) = f.length := List.length_map tS
    obtain ⟨r0, hr0, hw0, hm0⟩ := head_at hl1
    have hz0 : (tx r0).length ≤ 100000 := by rw [tx_len]; have := row_len hf hm0; omega
    obtain ⟨hw1, hw2⟩ := wid_le hf
    refine s_cons (t_setO o fs S (by walk_at "ix") (x_lst a_nil (Nat.le_of_ble_eq_true rfl)) (fun l us F1 H1 g1 fF fH hl r S1 => ?_) (by decide +kernel))
    have w1 : Ow M.K F0 H F1 H1 l ((cellsTo f 0).map tP) := ow_new g1 fF fH hl r
    refine s_cons ?_
    refine t_forR o fs S1 (by walk_at "ix") (r_n (n := f.length) o.toOk0 hran (XD.to (x_len o.toOk0 hlen (by walk_at "xh") (by decide +kernel)) (by rw [hlm])) (by omega) (by decide +kernel)) (fun i F' σ' H' => (Ow M.K F0 H F' H' l ((cellsTo f i).map tP) ∧ σ'[1]? = some (some (.ref l))) ∧ Stt M.K F' H' σ' [some (fl f), none, none, none]) ?_ ?_ ?_
    · intro F' H' g S'
      exact ⟨⟨w1.grow g, List.getElem?_set_self (by rw [← S.ln]; exact Nat.le_of_ble_eq_true rfl)⟩, S'.less ⟨.inr rfl, .inl rfl, .inl rfl, .inl rfl, trivial⟩⟩
    · rintro i F' σ' H' hi e1 e2 ⟨⟨w, hv⟩, S'⟩
      have S2 := S'.set (i := 2) (v := .int (0 + (i : Int))) (d := .int (0 + (i : Int))) (.int _)
      have hv2 : (σ'.set 2 (some (.int (0 + (i : Int)))))[1]? = some (some (.ref l)) := by
        rw [List.getElem?_set_ne (by decide)]
        exact hv
      rw [show (0 : Int) + (i : Int) = (i : Int) by omega] at S2 hv2 ⊢
      obtain ⟨r, hr, hmr, hgr⟩ := row_at (f := f) (i := i) hi
      have hwr := wid_row hf hmr
      have hz : (tx r).length ≤ 100000 := by rw [tx_len]; have := row_len hf hmr; omega
      have hlc := cellsTo_len f i
      have hml : Flo.wid f * i ≤ 8 * 8 := Nat.mul_le_mul hw2 (by omega)
      refine s_one (t_extend (ds2 := (((List.range (Flo.wid f)).filter fun j : Nat => decide (Sta.sgn f i j = 46)).map fun j : Nat => ((i : Int), (j : Int))).map tP) o S2 w (by walk_at "ix") hv2 ?z (XO.to (o_lcX (lo := 0) (n := Flo.wid f) o [("column", 3)] 3 (fun j => decide (Sta.sgn f i j = 46)) (fun j => tP ((i : Int), (j : Int))) ?r (by decide +kernel) (by decide) rfl (by decide +kernel) (.inr ⟨_, rfl⟩) (by omega) ?b ?c) ?e) ?k (by decide +kernel))
      case z =>
        rw [List.length_map, List.length_map, List.length_map]
        have := List.length_filter_le (fun j : Nat => decide (Sta.sgn f i j = 46)) (List.range (Flo.wid f))
        rw [List.length_range] at this
        omega
      case r => exact r_n (n := Flo.wid f) o.toOk0 hran (XD.to (x_lenS (z := tx r0) o.toOk0 hlen (XD.xh (x_ixL (ds := f.map tS) o.toOk0 (by walk_at "xd") x_int hr0)) hz0 (by decide +kernel)) (by rw [tx_len, hw0])) (by omega) (by decide +kernel)
      case b =>
        intro j hj F3 H3 g
        have S3 := S2.blk (vs := [3]) (j := 3) (v := .int (0 + (j : Int))) (d := .int (0 + (j : Int))) g (.int _)
        rw [show (0 : Int) + (j : Int) = (j : Int) by omega] at S3 ⊢
        refine Blk.one (fun Y oY => ?_) fun _ Y oY => by walk_at "xd"
        refine XB.to (b_eqS (y := ⟨#[Sta.sgn f i j]⟩) (z := ".") (XD.xh (x_ixS (z := tx r) (x_ixL (ds := f.map tS) oY.toOk0 (by walk_at "xd") (by walk_at "xd") hr) (by walk_at "xd") hz (sign_at hgr (by omega)))) x_str.xh) ?_
        rw [sign_dot, sign_eq]
      case c =>
        intro h
        cases h
      case e =>
        unfold kept
        rw [List.map_map]
        rfl
      case k =>
        intro us us' F3 H3 g hl3 S3 w3
        refine ⟨F3, g.ex, w3.le, ⟨?_, hv2⟩, S3.less ⟨.inr rfl, .inl rfl, .inl rfl, .inl rfl, trivial⟩⟩
        rw [cellsTo_snoc, List.map_append]
        exact w3
    · rintro F' σ' H' e1 e2 ⟨⟨w, hv⟩, S'⟩
      exact s_one (t_retL (E := E) o.toOk0 w (by walk_at "ix") hv dn (by decide +kernel))
end
end Roll

namespace Roll
open PySem L2 Lay
section
variable {M : Md}
theorem fc_law_roll {f : Addr} {fd : FuncData} (F : Fun M.K "_law_roll" "_law_roll" s__law_roll f fd) (gm : M.mg "_law_roll" = some (.ref f)) (bd : Binds M.K fd ["lie", "roll"] []) : Fc M CX0 "_law_roll" 1 (spG M.K rRoll) := by
  refine fc_of F gm bd sc__law_roll (fun ds r h => ?_) (by decide) fun X o fs ds r h F0 H σ Q E S dn => ?_
  · obtain ⟨a, b, c, g, rfl, _⟩ := h
    rfl
  · obtain ⟨a, b, c, u, rfl, rfl⟩ := h
    refine s_cons ?_
    walk_at "if"
    · intro hc F' H' g S'
      rw [sign_n, sign_eq] at hc
      have hc := of_decide_eq_true hc
      refine s_one (t_done (E := E) S' ?_ (dn.grow g))
      unfold Die.roll
      rw [if_pos hc]
      walk_at "xdt"
    · intro hc F' H' g S'
      rw [sign_n, sign_eq] at hc
      have n1 := of_decide_eq_false hc
      refine s_nil (s_cons ?_)
      walk_at "if"
      · intro hc F2 H2 g2 S'
        rw [sign_s, sign_eq] at hc
        have hc := of_decide_eq_true hc
        refine s_one (t_done (E := E) S' ?_ ((dn.grow g).grow g2))
        unfold Die.roll
        rw [if_neg n1, if_pos hc]
        walk_at "xdt"
      · intro hc F2 H2 g2 S'
        rw [sign_s, sign_eq] at hc
        have n2 := of_decide_eq_false hc
        refine s_nil (s_cons ?_)
        walk_at "if"
        · intro hc F3 H3 g3 S'
          rw [sign_e, sign_eq] at hc
          have hc := of_decide_eq_true hc
          refine s_one (t_done (E := E) S' ?_ (((dn.grow g).grow g2).grow g3))
          unfold Die.roll
          rw [if_neg n1, if_neg n2, if_pos hc]
          walk_at "xdt"
        · intro hc F3 H3 g3 S'
          rw [sign_e, sign_eq] at hc
          have n3 := of_decide_eq_false hc
          refine s_nil (s_one (t_done (E := E) S' ?_ (((dn.grow g).grow g2).grow g3)))
          unfold Die.roll
          rw [if_neg n1, if_neg n2, if_neg n3]
          walk_at "xdt"
end
end Roll

namespace Roll
open PySem L2 Lay
section
variable {M : Md}
theorem fc_law_next {f : Addr} {fd : FuncData} (F : Fun M.K "_law_next" "_law_next" s__law_next f fd) (gm : M.mg "_law_next" = some (.ref f)) (bd : Binds M.K fd ["floor", "stand", "roll"] [])
    (hlen : M.mg "len" = none) (hint : M.mg "int" = none) (cR : Fc M CX0 "_law_roll" 1 (spG M.K rRoll)) : Fc M CX0 "_law_next" 2 (spG M.K rNext) := by
  refine fc_of F gm bd sc__law_next (fun ds r h => ?_) (by decide) fun X o fs ds r h F0 H σ Q E S dn => ?_
  · obtain ⟨f, s, c, _, rfl, _⟩ := h
    rfl
  · obtain ⟨f, s, c, ⟨hf, hc⟩, rfl, rfl⟩ := h
    have hcc := of_decide_eq_true hc
    simp only [List.mem_cons, List.not_mem_nil, or_false] at hcc
    rw [← Sta.step_letter] at hc
    obtain ⟨d, hd⟩ := Option.isSome_iff_exists.mp hc
    have er : s.1.1 + (if decide (c = 115) = true then 1 else 0) - (if decide (c = 110) = true then 1 else 0) = s.1.1 + d.1 := by
      rcases hcc with rfl | rfl | rfl | rfl <;> (have hd' := Option.some.inj hd; subst hd') <;> simp <;> omega
    have ec : s.1.2 + (if decide (c = 101) = true then 1 else 0) - (if decide (c = 119) = true then 1 else 0) = s.1.2 + d.2 := by
      rcases hcc with rfl | rfl | rfl | rfl <;> (have hd' := Option.some.inj hd; subst hd') <;> simp <;> omega
    refine s_cons (t_set (d := .int (s.1.1 + d.1)) o fs S (by walk_at "ix") (XD.to (x_sub (x_add ?a1 (x_intB o.toOk0 hint (XD.to (x_eqS (y := ⟨#[c]⟩) (z := "s") ?a2 x_str.xh) (by rw [sign_s, sign_eq])) (by decide +kernel))) (x_intB o.toOk0 hint (XD.to (x_eqS (y := ⟨#[c]⟩) (z := "n") ?a3 x_str.xh) (by rw [sign_n, sign_eq])) (by decide +kernel))) (congrArg PyData.int er)) (fun v1 F1 H1 g1 S1 => ?_) (by decide +kernel))
    case a1 => walk_at "xd"
    case a2 => walk_at "xh"
    case a3 => walk_at "xh"
    refine s_cons (t_set (d := .int (s.1.2 + d.2)) o fs S1 (by walk_at "ix") (XD.to (x_sub (x_add ?b1 (x_intB o.toOk0 hint (XD.to (x_eqS (y := ⟨#[c]⟩) (z := "e") ?b2 x_str.xh) (by rw [sign_e, sign_eq])) (by decide +kernel))) (x_intB o.toOk0 hint (XD.to (x_eqS (y := ⟨#[c]⟩) (z := "w") ?b3 x_str.xh) (by rw [sign_w, sign_eq])) (by decide +kernel))) (congrArg PyData.int ec)) (fun v2 F2 H2 g2 S2 => ?_) (by decide +kernel))
    case b1 => walk_at "xd"
    case b2 => walk_at "xh"
    case b3 => walk_at "xh"
    clear er ec
    have en : Sta.next f s c = if Sta.isCell f (s.1.1 + d.1, s.1.2 + d.2) = true then some ((s.1.1 + d.1, s.1.2 + d.2), Die.roll s.2 c) else none := by
      unfold Sta.next
      rw [hd]
    rw [en] at dn
    have dn := (dn.grow g1).grow g2
    generalize s.1.1 + d.1 = a at S2 dn
    generalize s.1.2 + d.2 = b at S2 dn
    clear en
    obtain ⟨hl1, hl2, _⟩ := Flo.okF_of hf
    have hlm : ((f.map tS).length : Nat) = f.length := List.length_map tS
    obtain ⟨r0, hr0, hw0, hm0⟩ := head_at hl1
    have hz0 : (tx r0).length ≤ 100000 := by rw [tx_len]; have := row_len hf hm0; omega
    generalize hc1 : (decide ((0 : Int) ≤ a) && decide (a < ((f.map tS).length : Nat))) = c1
    generalize hc2 : (decide ((0 : Int) ≤ b) && decide (b < ((tx r0).length : Nat))) = c2
    have e0 : Sta.isCell f (a, b) = (c1 && c2 && decide (Sta.sgn f a.toNat b.toNat = 46)) := by
      unfold Sta.isCell
      rw [← hc1, ← hc2, tx_len, hw0, hlm]
    refine s_cons ?_
    have dnN : Sta.isCell f (a, b) = false → ∀ (F' H' : Hp), Grow F2 H2 F' H' → Done M.K F' H' Q E (.val .none) := fun h F' H' g => by
      rw [h, if_neg Bool.false_ne_true] at dn
      exact dn.grow g
    cases c1 with
    | false =>
      have hN : Sta.isCell f (a, b) = false := by rw [e0]; rfl
      refine' t_if (c := true) S2 (XB.to (XW.xb (w_or (c := true) (c' := true) (XB.to (b_not (b_lelt (i := 0) (j := a) (l := ((f.map tS).length : Nat)) x_int ?u1 (x_len o.toOk0 hlen ?u2 (by decide +kernel)))) (by rw [hc1]; rfl)) fun z => Bool.noConfusion z)) rfl) ?u3 (fun z => Bool.noConfusion z)
      case u1 => walk_at "xd"
      case u2 => walk_at "xh"
      case u3 =>
        intro _ F3 H3 g3 S3
        exact s_one (t_done (E := E) S3 (by walk_at "xd") (dnN hN F3 H3 g3))
    | true =>
      cases c2 with
      | false =>
        have hN : Sta.isCell f (a, b) = false := by rw [e0]; rfl
        refine' t_if (c := true) S2 (XB.to (XW.xb (w_or (c := false) (c' := true) (XB.to (b_not (b_lelt (i := 0) (j := a) (l := ((f.map tS).length : Nat)) x_int ?u4 (x_len o.toOk0 hlen ?u5 (by decide +kernel)))) (by rw [hc1]; rfl)) fun _ => w_or (c := true) (c' := true) (XB.to (b_not (b_lelt (i := 0) (j := b) (l := ((tx r0).length : Nat)) x_int ?u6 (x_lenS o.toOk0 hlen (XD.xh (x_ixL (ds := f.map tS) o.toOk0 ?u7 x_int hr0)) hz0 (by decide +kernel)))) (by rw [hc2]; rfl)) fun z => Bool.noConfusion z)) rfl) ?u8 (fun z => Bool.noConfusion z)
        case u4 => walk_at "xd"
        case u5 => walk_at "xh"
        case u6 => walk_at "xd"
        case u7 => walk_at "xd"
        case u8 =>
          intro _ F3 H3 g3 S3
          exact s_one (t_done (E := E) S3 (by walk_at "xd") (dnN hN F3 H3 g3))
      | true =>
        have hcc1 := hc1
        have hcc2 := hc2
        simp only [Bool.and_eq_true, decide_eq_true_eq] at hcc1 hcc2
        obtain ⟨i, hi⟩ := Int.eq_ofNat_of_zero_le hcc1.1
        obtain ⟨j, hj⟩ := Int.eq_ofNat_of_zero_le hcc2.1
        subst hi hj
        obtain ⟨r, hr, hmr, hgr⟩ := row_at (f := f) (i := i) (by omega)
        have hwr := wid_row hf hmr
        have hjr : j < r.length := by
          have := hcc2.2
          rw [tx_len, hw0] at this
          omega
        have hs := sign_at hgr hjr
        have hz : (tx r).length ≤ 100000 := by rw [tx_len]; have := row_len hf hmr; omega
        have e1 : Sta.isCell f ((i : Int), (j : Int)) = decide (Sta.sgn f i j = 46) := by rw [e0]; rfl
        refine' t_if (c := !decide (Sta.sgn f i j = 46)) S2 (XB.to (XW.xb (w_or (c := false) (c' := !decide (Sta.sgn f i j = 46)) (XB.to (b_not (b_lelt (i := 0) (j := (i : Int)) (l := ((f.map tS).length : Nat)) x_int ?w1 (x_len o.toOk0 hlen ?w2 (by decide +kernel)))) (by rw [hc1]; rfl)) fun _ => w_or (c := false) (c' := !decide (Sta.sgn f i j = 46)) (XB.to (b_not (b_lelt (i := 0) (j := (j : Int)) (l := ((tx r0).length : Nat)) x_int ?w3 (x_lenS o.toOk0 hlen (XD.xh (x_ixL (ds := f.map tS) o.toOk0 ?w4 x_int hr0)) hz0 (by decide +kernel)))) (by rw [hc2]; rfl)) fun _ => w_or1 (XB.to (b_neS (y := ⟨#[Sta.sgn f i j]⟩) (z := ".") (XD.xh (x_ixS (z := tx r) (x_ixL (ds := f.map tS) o.toOk0 ?w5 ?w6 hr) ?w7 hz hs)) x_str.xh) (by rw [sign_dot, sign_eq])))) rfl) ?w8 ?w9
        case w1 => walk_at "xd"
        case w2 => walk_at "xh"
        case w3 => walk_at "xd"
        case w4 => walk_at "xd"
        case w5 => walk_at "xd"
        case w6 => walk_at "xd"
        case w7 => walk_at "xd"
        case w8 =>
          intro hx F3 H3 g3 S3
          rw [Bool.not_eq_true'] at hx
          exact s_one (t_done (E := E) S3 (by walk_at "xd") (dnN (by rw [e1]; exact hx) F3 H3 g3))
        case w9 =>
          intro hx F3 H3 g3 S3
          rw [Bool.not_eq_false'] at hx
          rw [e1, hx, if_pos rfl] at dn
          refine s_nil (s_one (t_done (E := E) S3 ?_ (dn.grow g3)))
          refine XD.to (x_tup (a_cons ?y1 (a_cons (x_call o cR pz0 ?y2 ⟨s.2.1, s.2.2.1, s.2.2.2, c, rfl, rfl⟩ (by decide) (by decide +kernel)) a_nil)) (Nat.le_of_ble_eq_true rfl)) rfl
          case y1 => walk_at "xd"
          case y2 => walk_at "xa"
end
end Roll

namespace Roll
open PySem L2 Lay
def rCell (ds : List PyData) (r : Out) : Prop := ∃ (ns : List Int) (k : Nat), ds = [scr ns, .int (k : Int)] ∧ r = .val (.int (cellAt ns k))
section
variable {M : Md}
theorem fc_cell_at {f : Addr} {fd : FuncData} (F : Fun M.K "_law_cell_at" "_law_cell_at" s__law_cell_at f fd) (gm : M.mg "_law_cell_at" = some (.ref f)) (bd : Binds M.K fd ["script", "k"] [])
    (hlen : M.mg "len" = none) : Fc M CX0 "_law_cell_at" 1 (spG M.K rCell) := by
  refine fc_of F gm bd sc__law_cell_at (fun ds r h => ?_) (by decide) fun X o fs ds r h F0 H σ Q E S dn => ?_
  · obtain ⟨ns, k, rfl, _⟩ := h
    rfl
  · obtain ⟨ns, k, rfl, rfl⟩ := h
    refine s_cons ?_
    refine' t_if (c := decide ((k : Int) < (ns.length : Nat))) S (b_lt ?c1 (XD.xh (x_lenScr o.toOk0 hlen ?c2 (by decide +kernel)))) ?t ?f
    case c1 => walk_at "xh"
    case c2 => walk_at "xh"
    case t =>
      intro hc F' H' g S'
      have hk : k < ns.length := by
        have := of_decide_eq_true hc
        omega
      refine s_one (t_done (E := E) S' (x_ixScr (ns := ns) (i := k) o.toOk0 (by walk_at "xd") (by walk_at "xd") ?_) (dn.grow g))
      show ns[k]? = some (ns.getD k 0)
      rw [List.getD_eq_getElem?_getD, List.getElem?_eq_getElem hk]
      rfl
    case f =>
      intro hc F' H' g S'
      have hk : ns.length ≤ k := by
        have := of_decide_eq_false hc
        omega
      have e : cellAt ns k = 0 := by
        unfold cellAt
        rw [List.getD_eq_getElem?_getD, List.getElem?_eq_none hk]
        rfl
      rw [e] at dn
      exact s_nil (s_one (t_done (E := E) S' (by walk_at "xd") (dn.grow g)))
end
end Roll

namespace Roll
open PySem L2 Lay
def rLies (ds : List PyData) (r : Out) : Prop := ds = [] ∧ r = .own (Die.lies24.map tL)
def lrow (a b : Int) : List Die.L3 := ((List.range 6).filter fun i : Nat => Die.isLie (a, b, 1 + (i : Int))).map fun i : Nat => (a, b, 1 + (i : Int))
def lpre (n : Nat) : List Die.L3 := (List.range n).flatMap fun k : Nat => lrow (1 + ((k / 6 : Nat) : Int)) (1 + ((k % 6 : Nat) : Int))
theorem lpre_36 : lpre 36 = Die.lies24 := by decide +kernel
theorem lpre_snoc (n : Nat) : lpre (n + 1) = lpre n ++ lrow (1 + ((n / 6 : Nat) : Int)) (1 + ((n % 6 : Nat) : Int)) := by
  unfold lpre
  rw [List.range_succ, List.flatMap_append]
  simp
theorem lrow_len (a b : Int) : (lrow a b).length ≤ 6 := by
  unfold lrow
  rw [List.length_map]
  exact Nat.le_trans (List.length_filter_le _ _) (by rw [List.length_range]; omega)
theorem lpre_len (n : Nat) : (lpre n).length ≤ 6 * n := by
  induction n with
  | zero => exact Nat.le_refl 0
  | succ n ih =>
    rw [lpre_snoc, List.length_append]
    have := lrow_len (1 + ((n / 6 : Nat) : Int)) (1 + ((n % 6 : Nat) : Int))
    omega
theorem kept_row (a b : Int) : kept (List.range 6) (fun i : Nat => Die.isLie (a, b, 1 + (i : Int))) (fun i : Nat => tl a b (1 + (i : Int))) = (lrow a b).map tL := by
  unfold kept lrow
  rw [List.map_map]
  rfl
theorem lie_ix (c : Int) : ∃ l : Die.L3, Die.isLie l = true ∧ atI (Die.lies24.map tL) (c % 24) = some (tL l) := by
  have h1 : 0 ≤ c % 24 := Int.emod_nonneg _ (by decide)
  have h2 : c % 24 < 24 := Int.emod_lt_of_pos _ (by decide)
  obtain ⟨n, hn⟩ := Int.eq_ofNat_of_zero_le h1
  have hlt : n < Die.lies24.length := by
    show n < 24
    omega
  refine ⟨Die.lies24[n], ?_, ?_⟩
  · rw [← Die.mem_lies, Die.lies_eq]
    exact List.getElem_mem hlt
  · rw [hn]
    exact atI_nat (by rw [List.getElem?_map, List.getElem?_eq_getElem hlt]; rfl)
theorem pl_l24 : Pl (.list (Die.lies24.map tL)) := by
  show SeqAt.shaped _ = true
  decide +kernel
theorem eqv_l24 : PyData.eqv (.list (Die.lies24.map tL)) (.list (Die.lies24.map tL)) = true := by decide +kernel
theorem eqv_bb (b : Bool) : PyData.eqv (.bool b) (.bool b) = true := by cases b <;> rfl
end Roll

namespace Roll
open PySem L2 Lay
section
variable {M : Md}
theorem fc_law_pairs {f : Addr} {fd : FuncData} (F : Fun M.K "_law_pairs" "_law_pairs" s__law_pairs f fd) (gm : M.mg "_law_pairs" = some (.ref f)) (bd : Binds M.K fd ["lie"] []) : Fc M CX0 "_law_pairs" 1 (spG M.K rPairs) := by
  refine fc_of F gm bd sc__law_pairs (fun ds r h => ?_) (by decide) fun X o fs ds r h F0 H σ Q E S dn => ?_
  · obtain ⟨a, b, c, rfl, _⟩ := h
    rfl
  · obtain ⟨a, b, c, rfl, ha, hb, hc, rfl⟩ := h
    have hz : ∀ z ∈ [a, b, c], 1 ≤ z ∧ z ≤ 6 := by
      intro z hz
      simp only [List.mem_cons, List.not_mem_nil, or_false] at hz
      rcases hz with rfl | rfl | rfl <;> assumption
    refine s_one (t_doneO (E := E) S (o_lc o [("number", 1)] 1 PyData.int [a, b, c] (fun _ => true) (fun z => .int (Die.pr z)) S.le (.inr (by walk_at "xd")) (by decide +kernel) (by decide) rfl (by decide +kernel) (.inl rfl) (by show 3 < 100000; decide) (fun z hm v F1 H1 g r => ?_) (fun _ _ => rfl)) dn)
    have hz := hz z hm
    have S' := S.blk (vs := [1]) (j := 1) g r
    have e := pr_at hz
    exact Blk.no fun Y oY => by walk_at "xd"
theorem fc_law_odd {f : Addr} {fd : FuncData} (F : Fun M.K "_law_odd" "_law_odd" s__law_odd f fd) (gm : M.mg "_law_odd" = some (.ref f)) (bd : Binds M.K fd ["row"] [])
    (hlen : M.mg "len" = none) (hran : M.mg "range" = none) : Fc M CX0 "_law_odd" 1 (spG M.K rDis) := by
  refine fc_of F gm bd sc__law_odd (fun ds r h => ?_) (by decide) fun X o fs ds r h F0 H σ Q E S dn => ?_
  · obtain ⟨ns, rfl, _⟩ := h
    rfl
  · obtain ⟨ns, rfl, hl, rfl⟩ := h
    refine s_cons ?_
    walk_at "set"
    intro v1 F1 H1 g1 S1
    refine s_cons ?_
    refine t_forR o fs S1 (by walk_at "ix") (r_1 (n := (ns.length : Int)) o.toOk0 hran ?_ (by omega)) (fun i F' σ' H' => Grow F0 H F' H' ∧ Stt M.K F' H' σ' [some (.list (ns.map PyData.int)), some (.int (Die.disC ns i)), none, none]) ?_ ?_ ?_
    · refine XD.to (d1 := .int (ns.map PyData.int).length) (by walk_at "xd") ?_
      rw [List.length_map]
    · intro F' H' g S'
      exact ⟨g1.trans g, S'.less ⟨.inr rfl, .inr rfl, .inl rfl, .inl rfl, trivial⟩⟩
    · rintro i F' σ' H' hi e1 e2 ⟨g, S'⟩
      have hi' : i < ns.length := by omega
      obtain ⟨z, hz⟩ : ∃ z, ns[i]? = some z := ⟨ns[i], by simp [hi']⟩
      have S2 := S'.set (i := 2) (v := .int (0 + (i : Int))) (d := .int (0 + (i : Int))) (.int _)
      rw [show (0 : Int) + (i : Int) = (i : Int) by omega] at S2 ⊢
      refine s_one ?_
      have hat : atI (ns.map PyData.int) (i : Int) = some (.int z) := atI_nat (by rw [List.getElem?_map, hz]; rfl)
      refine t_set (d := .int (Die.disC ns (i + 1))) o fs S2 (by walk_at "ix") ?_ ?_ (by decide +kernel)
      · refine XD.to (d1 := .int ((Die.disC ns i : Int) + ((kept (ns.take i) (fun n => decide (z < n)) PyData.int).length : Nat))) (x_add (by walk_at "xd") (x_len o.toOk0 hlen (XO.xd (o_lc o [("one", 3)] 3 PyData.int (ns.take i) (fun n => decide (z < n)) PyData.int S2.le (.inl ?_) (by decide +kernel) (by decide) rfl (by decide +kernel) (.inr ⟨_, rfl⟩) ?_ ?_ ?_)).xh (by decide +kernel))) ?_
        · refine XD.to (d1 := .list (cutD (ns.map PyData.int) none (some (i : Int)))) (XO.xd (o_slL o.toOk0 (by walk_at "var") .no (.yes (by walk_at "var")))) ?_
          rw [cut_none i (by rw [List.length_map]; omega), List.map_take]
        · rw [List.length_take]
          omega
        · intro n hm v F2 H2 g2 r
          have S3 := S2.blk (vs := [3]) (j := 3) g2 r
          exact Blk.one (fun Y oY => by walk_at "xb") fun _ Y oY => by walk_at "xd"
        · intro h
          cases h
        · show PyData.int _ = PyData.int _
          rw [show Die.disC ns (i + 1) = Die.disC ns i + Die.gr ns i from rfl, gr_eq ns i hz]
          unfold kept
          rw [List.length_map, Int.natCast_add]
      · intro v F2 H2 g2 S3
        exact ⟨F2, g2.ex, g2.le, g.trans g2, S3.less ⟨.inr rfl, .inr rfl, .inl rfl, .inl rfl, trivial⟩⟩
    · rintro F' σ' H' e1 e2 ⟨g, S'⟩
      refine s_one (t_done (E := E) S' ?_ (dn.grow g))
      refine XD.to (d1 := .int ((Die.disC ns ((ns.length : Int)).toNat : Int) % 2)) (by walk_at "xd") ?_
      unfold Die.dis
      rw [Int.toNat_natCast]
end
local macro_rules | `(tactic| walk_at "rel") => `(tactic| first
  | exact ⟨_, _, _, rfl, by assumption, by assumption, by assumption, rfl⟩
  | exact ⟨[_, _, _], rfl, by show 3 ≤ 1000; decide, rfl⟩
  | exact ⟨_, _, rfl, rfl⟩)
section
variable {M : Md}
theorem fc_law_is_lie {f : Addr} {fd : FuncData} (F : Fun M.K "_law_is_lie" "_law_is_lie" s__law_is_lie f fd) (gm : M.mg "_law_is_lie" = some (.ref f)) (bd : Binds M.K fd ["lie"] [])
    (hlen : M.mg "len" = none) (hsor : M.mg "sorted" = none) (cP : Fc M CX0 "_law_pairs" 1 (spG M.K rPairs)) (cD : Fc M CX0 "_law_odd" 1 (spG M.K rDis)) : Fc M CX0 "_law_is_lie" 2 (spG M.K rIsLie) := by
  refine fc_of F gm bd sc__law_is_lie (fun ds r h => ?_) (by decide) fun X o fs ds r h F0 H σ Q E S dn => ?_
  · obtain ⟨a, b, c, rfl, _⟩ := h
    rfl
  · obtain ⟨a, b, c, rfl, rfl⟩ := h
    refine s_cons ?_
    refine' t_if (c := decide ((0 : Int) < ((kept [a, b, c] (fun z => !Die.inR z) PyData.int).length : Nat)) || !(srt (Die.prs (a, b, c)) == [1, 2, 3])) S (XW.xb (w_or ?c1 fun h => w_or1 ?c2)) ?t ?f
    case c1 =>
      refine b_gt (XD.xh (x_len o.toOk0 hlen (XO.xd (o_lc o [("number", 1)] 1 PyData.int [a, b, c] (fun z => !Die.inR z) PyData.int S.le (.inr (by walk_at "xd")) (by decide +kernel) (by decide) rfl (by decide +kernel) (.inr ⟨_, rfl⟩) (by show 3 < 100000; decide) (fun z hm v F1 H1 g r => ?_) ?_)).xh (by decide +kernel))) x_int.xh
      · have S' := S.blk (vs := [1]) (j := 1) g r
        exact Blk.one (fun Y oY => by walk_at "xb") fun _ Y oY => by walk_at "xd"
      · intro h
        cases h
    case c2 =>
      obtain ⟨ha, hb, hc⟩ := outside_no h
      have ha := Die.inR_of ha
      have hb := Die.inR_of hb
      have hc := Die.inR_of hc
      refine XB.to (b_ne (d1 := .list ((srt (Die.prs (a, b, c))).map PyData.int)) (d2 := .list ([1, 2, 3].map PyData.int)) o (XD.xh (XO.xd (o_sortedI (ns := Die.prs (a, b, c)) o.toOk0 hsor (XO.xd ?_) (srt_perm _) (srt_up _)))) ?_ (pl_ints _) rfl) ?_
      · walk_at "ocall"
      · walk_at "xh"
      · rw [← eqv_ints]
        rfl
    case t =>
      intro h F' H' g S'
      have e : Die.isLie (a, b, c) = false := by
        cases h1 : decide ((0 : Int) < ((kept [a, b, c] (fun z => !Die.inR z) PyData.int).length : Nat)) with
        | true => exact outside_yes h1
        | false =>
          rw [h1, Bool.false_or, srt_iff] at h
          unfold Die.isLie
          have h2 : decide ((Die.prs (a, b, c)).Perm [1, 2, 3]) = false := by simpa using h
          rw [h2, Bool.and_false, Bool.false_and]
      rw [e] at dn
      exact s_one (t_done (E := E) S' (by walk_at "xd") (dn.grow g))
    case f =>
      intro h F' H' g S'
      refine s_nil ?_
      simp only [Bool.or_eq_false_iff] at h
      obtain ⟨h1, h2⟩ := h
      obtain ⟨ia, ib, ic⟩ := outside_no h1
      have ha := Die.inR_of ia
      have hb := Die.inR_of ib
      have hc := Die.inR_of ic
      rw [srt_iff] at h2
      have hp : decide ((Die.prs (a, b, c)).Perm [1, 2, 3]) = true := by simpa using h2
      refine s_cons ?_
      refine t_set o fs S' (d := .int ((kept [a, b, c] (fun n => decide (3 < n)) PyData.int).length : Nat)) (by walk_at "ix") (x_len o.toOk0 hlen (XO.xd (o_lc o [("number", 1)] 1 PyData.int [a, b, c] (fun z => decide (3 < z)) PyData.int S'.le (.inr (by walk_at "xd")) (by decide +kernel) (by decide) rfl (by decide +kernel) (.inr ⟨_, rfl⟩) (by show 3 < 100000; decide) (fun z hm v F1 H1 g r => ?_) ?_)).xh (by decide +kernel)) ?_ (by decide +kernel)
      · have S2 := S'.blk (vs := [1]) (j := 1) g r
        exact Blk.one (fun Y oY => by walk_at "xb") fun _ Y oY => by walk_at "xd"
      · intro h
        cases h
      · intro v F2 H2 g2 S2
        refine s_one (t_done (E := E) S2 ?_ ((dn.grow g).grow g2))
        have e : Die.isLie (a, b, c) = decide ((((kept [a, b, c] (fun n => decide (3 < n)) PyData.int).length : Int) + Die.dis (Die.prs (a, b, c))) % 2 = 0) := by
          unfold Die.isLie
          rw [hp]
          simp only [ia, ib, ic, Bool.true_and, Bool.and_true]
          have hd : Die.dis (Die.prs (a, b, c)) = 0 ∨ Die.dis (Die.prs (a, b, c)) = 1 := by
            unfold Die.dis
            omega
          unfold Die.great kept Die.lst
          rw [List.length_map]
          show decide (((List.filter (fun n => decide (3 < n)) [a, b, c]).length : Int) % 2 = Die.dis (Die.prs (a, b, c))) = _
          generalize ((List.filter (fun n => decide (3 < n)) [a, b, c]).length : Int) = y at hd ⊢
          congr 1
          apply propext
          constructor <;> intro hh <;> omega
        rw [e]
        walk_at "xde"
        rw [eqv_int, Bool.beq_eq_decide_eq]
        rfl
end
end Roll

namespace Roll
open PySem L2 Lay
local macro_rules | `(tactic| walk_at "rel") => `(tactic| first
  | exact ⟨_, _, _, rfl, rfl⟩)
section
variable {M : Md} {C : Addr}
theorem fc_law_lies {f : Addr} {fd : FuncData} (F : Fun M.K "_law_lies" "_law_lies" s__law_lies f fd) (gm : M.mg "_law_lies" = some (.ref f)) (bd : Binds M.K fd [] [])
    (hran : M.mg "range" = none) (cI : Fc M CX0 "_law_is_lie" 2 (spG M.K rIsLie)) : Fc M CX0 "_law_lies" 3 (spG M.K rLies) := by
  refine fc_of F gm bd sc__law_lies (fun ds r h => ?_) (by decide) fun X o fs ds r h F0 H σ Q E S dn => ?_
  · obtain ⟨rfl, _⟩ := h
    rfl
  · obtain ⟨rfl, rfl⟩ := h
    refine s_cons (t_setO o fs S (by walk_at "ix") (x_lst a_nil (Nat.le_of_ble_eq_true rfl)) (fun l us F1 H1 g1 fF fH hl r S1 => ?_) (by decide +kernel))
    have hv1 : (σ.set 0 (some (.ref l)))[0]? = some (some (.ref l)) := List.getElem?_set_self (by rw [← S.ln]; exact Nat.le_of_ble_eq_true rfl)
    have w1 : Ow M.K F0 H F1 H1 l ((lpre 0).map tL) := ow_new g1 fF fH hl r
    refine s_cons ?_
    refine t_forR o fs S1 (by walk_at "ix") (r_2 (lo := 1) (n := 7) o.toOk0 hran x_int x_int (by decide)) (fun i F' σ' H' => Ow M.K F0 H F' H' l ((lpre (6 * i)).map tL) ∧ Stt M.K F' H' σ' [none, none, none, none] ∧ σ'[0]? = some (some (.ref l))) ?_ ?_ ?_
    · intro F' H' g S'
      exact ⟨w1.grow g, S'.less ⟨.inl rfl, .inl rfl, .inl rfl, .inl rfl, trivial⟩, hv1⟩
    · rintro i F' σ' H' hi e1 e2 ⟨w, S', hv⟩
      have hi' : i < 6 := hi
      have S2 := S'.set (i := 1) (v := .int (1 + (i : Int))) (d := .int (1 + (i : Int))) (.int _)
      have hv2 : (σ'.set 1 (some (.int (1 + (i : Int)))))[0]? = some (some (.ref l)) := by
        rw [List.getElem?_set_ne (by decide)]
        exact hv
      refine s_one ?_
      refine t_forR o fs S2 (by walk_at "ix") (r_2 (lo := 1) (n := 7) o.toOk0 hran x_int x_int (by decide)) (fun j F2 σ2 H2 => Ow M.K F0 H F2 H2 l ((lpre (6 * i + j)).map tL) ∧ Stt M.K F2 H2 σ2 [none, some (.int (1 + (i : Int))), none, none] ∧ σ2[0]? = some (some (.ref l))) ?_ ?_ ?_
      · intro F2 H2 g S3
        exact ⟨w.grow g, S3.less ⟨.inl rfl, .inr rfl, .inl rfl, .inl rfl, trivial⟩, hv2⟩
      · rintro j F2 σ2 H2 hj e3 e4 ⟨w2, S3, hv3⟩
        have hj' : j < 6 := hj
        have S4 := S3.set (i := 2) (v := .int (1 + (j : Int))) (d := .int (1 + (j : Int))) (.int _)
        have hv4 : (σ2.set 2 (some (.int (1 + (j : Int)))))[0]? = some (some (.ref l)) := by
          rw [List.getElem?_set_ne (by decide)]
          exact hv3
        have hlen := lpre_len (6 * i + j)
        refine s_one ?_
        refine t_extend (ds2 := (lrow (1 + (i : Int)) (1 + (j : Int))).map tL) o S4 w2 (by walk_at "ix") hv4 ?_ (XO.to (o_lcX (lo := 1) (n := 6) o [("east", 3)] 3 (fun z => Die.isLie (1 + (i : Int), 1 + (j : Int), 1 + (z : Int))) (fun z => tl (1 + (i : Int)) (1 + (j : Int)) (1 + (z : Int))) ?r (by decide +kernel) (by decide) rfl (by decide +kernel) (.inr ⟨_, rfl⟩) (by decide) ?b ?c) (kept_row _ _)) ?k (by decide +kernel)
        · rw [List.length_map, List.length_map]
          have := lrow_len (1 + (i : Int)) (1 + (j : Int))
          omega
        case r => exact r_2 (lo := 1) (n := 7) o.toOk0 hran x_int x_int (by decide)
        case b =>
          intro z hz F3 H3 g
          have S5 := S4.blk (vs := [3]) (j := 3) (v := .int (1 + (z : Int))) (d := .int (1 + (z : Int))) g (.int _)
          exact Blk.one (fun Y oY => by walk_at "xb") fun _ Y oY => by walk_at "xd"
        case c =>
          intro h
          cases h
        case k =>
          intro us us' F3 H3 g hl3 S5 w3
          refine ⟨F3, g.ex, w3.le, ?_, S5.less ⟨.inl rfl, .inr rfl, .inl rfl, .inl rfl, trivial⟩, hv4⟩
          rw [show 6 * i + (j + 1) = (6 * i + j) + 1 by omega, lpre_snoc, List.map_append, show (6 * i + j) / 6 = i by omega, show (6 * i + j) % 6 = j by omega]
          exact w3
      · rintro F2 σ2 H2 e3 e4 ⟨w2, S3, hv3⟩
        exact ⟨F2, e3, e4, w2, S3.less ⟨.inl rfl, .inl rfl, .inl rfl, .inl rfl, trivial⟩, hv3⟩
    · rintro F' σ' H' e1 e2 ⟨w, S', hv⟩
      have w : Ow M.K F0 H F' H' l ((lpre 36).map tL) := w
      rw [lpre_36] at w
      exact s_one (t_retL (E := E) o.toOk0 w (by walk_at "ix") hv dn (by decide +kernel))
end
end Roll

namespace Roll
open PySem L2 Lay
/-! what the law draws -/
def pickC (ns : List Int) (k : Nat) : Int := if k < ns.length then ns.getD k 0 else (cellAt ns 0 + 7 * (k : Int) + 3) * 48271 % 2147483647 / 13
def rPick (ds : List PyData) (r : Out) : Prop := ∃ (ns : List Int) (k : Nat), k ≤ 1000 ∧ ds = [scr ns, .int (k : Int)] ∧ r = .val (.int (pickC ns k))
def placeC (ns : List Int) (cs : List Sta.P2) : Sta.P2 := if (!cs.isEmpty && decide (0 < cellAt ns 2 % 4)) = true then cs.getD (cellAt ns 2 / 4 % (cs.length : Nat)).toNat (0, 0) else (cellAt ns 2 / 4 % 11 - 1, cellAt ns 2 / 44 % 11 - 1)
def lieAt (z : Int) : Die.L3 := Die.lies24.getD (z % 24).toNat Die.first
def lieC (z : Int) : Die.L3 := if (z / 24 % 5 == 1) = true then ((lieAt z).2.2, (lieAt z).2.1, (lieAt z).1) else lieAt z
def rDrawn (ds : List PyData) (r : Out) : Prop := ∃ (ns : List Int) (cs : List Sta.P2), cs.length ≤ 100 ∧ ds = [scr ns, .list (cs.map tP)] ∧ r = .val (tSd (placeC ns cs, lieC (cellAt ns 3)))
theorem lieAt_ix (z : Int) : atI (Die.lies24.map tL) (z % 24) = some (tL (lieAt z)) ∧ Die.isLie (lieAt z) = true := by
  have h1 : 0 ≤ z % 24 := Int.emod_nonneg _ (by decide)
  have h2 : z % 24 < 24 := Int.emod_lt_of_pos _ (by decide)
  obtain ⟨n, hn⟩ := Int.eq_ofNat_of_zero_le h1
  have hlt : n < Die.lies24.length := by
    show n < 24
    omega
  have e : lieAt z = Die.lies24[n] := by
    unfold lieAt
    rw [hn, Int.toNat_natCast, List.getD_eq_getElem?_getD, List.getElem?_eq_getElem hlt]
    rfl
  rw [e]
  refine ⟨?_, ?_⟩
  · rw [hn]
    exact atI_nat (by rw [List.getElem?_map, List.getElem?_eq_getElem hlt]; rfl)
  · rw [← Die.mem_lies, Die.lies_eq]
    exact List.getElem_mem hlt
theorem eqv_empty (ds : List PyData) : PyData.eqv (.list ds) (.list []) = ds.isEmpty := by
  cases ds <;> rfl
theorem can_tPs : ∀ cs : List Sta.P2, PyData.canLayAll0 (cs.map tP) = true ∧ PyData.depthAll (cs.map tP) ≤ 1
  | [] => ⟨rfl, by decide⟩
  | c :: cs => by
    obtain ⟨h1, h2⟩ := can_tPs cs
    refine ⟨?_, ?_⟩
    · show (true && PyData.canLayAll0 (cs.map tP)) = true
      rw [h1]
      rfl
    · show max (tP c).depth (PyData.depthAll (cs.map tP)) ≤ 1
      have : (tP c).depth = 1 := rfl
      omega
theorem pl_tPs (cs : List Sta.P2) : Pl (.list (cs.map tP)) := by
  obtain ⟨h1, h2⟩ := can_tPs cs
  show ((PyData.list (cs.map tP)).canLay0 && decide ((PyData.list (cs.map tP)).depth ≤ 64)) = true
  have e1 : (PyData.list (cs.map tP)).canLay0 = PyData.canLayAll0 (cs.map tP) := rfl
  have e2 : (PyData.list (cs.map tP)).depth = PyData.depthAll (cs.map tP) + 1 := rfl
  rw [e1, e2, h1, decide_eq_true (by omega)]
  rfl
theorem eqv_tP (p q : Sta.P2) : PyData.eqv (tP p) (tP q) = decide (p = q) := by
  obtain ⟨a, b⟩ := p
  obtain ⟨x, y⟩ := q
  show (a == x && (b == y && true)) = _
  by_cases h1 : a = x
  · by_cases h2 : b = y
    · subst h1 h2
      simp
    · simp [h2]
  · simp [h1]
theorem any_tP (cs : List Sta.P2) (p : Sta.P2) : ((cs.map tP).any fun z => PyData.eqv z (tP p)) = decide (p ∈ cs) := by
  induction cs with
  | nil => rfl
  | cons c cs ih =>
    rw [List.map_cons, List.any_cons, ih, eqv_tP]
    by_cases h : c = p
    · subst h
      simp
    · have h' : ¬ p = c := fun z => h z.symm
      rw [decide_eq_false h]
      simp [h']
theorem any_cells (f : Flo.Rows) (p : Sta.P2) : (((Sta.cells f).map tP).any fun z => PyData.eqv z (tP p)) = Sta.isCell f p := by
  rw [any_tP, Bool.eq_iff_iff, decide_eq_true_eq]
  exact Sta.mem_cells
theorem cell_ix {cs : List Sta.P2} (h : cs.isEmpty = false) (z : Int) : atI (cs.map tP) (z % (((cs.map tP).length : Nat) : Int)) = some (tP (cs.getD (z % (cs.length : Nat)).toNat (0, 0))) ∧ (0 : Int) < (((cs.map tP).length : Nat) : Int) ∧ cs.getD (z % (cs.length : Nat)).toNat (0, 0) ∈ cs := by
  have hl : 0 < cs.length := by
    cases cs with
    | nil => cases h
    | cons c cs => simp
  rw [List.length_map]
  have h1 := Int.emod_nonneg z (show ((cs.length : Nat) : Int) ≠ 0 by omega)
  have h2 := Int.emod_lt_of_pos z (show (0 : Int) < ((cs.length : Nat) : Int) by omega)
  obtain ⟨n, hn⟩ := Int.eq_ofNat_of_zero_le h1
  rw [hn, Int.toNat_natCast]
  have hlt : n < cs.length := by omega
  have e : cs.getD n (0, 0) = cs[n] := by
    rw [List.getD_eq_getElem?_getD, List.getElem?_eq_getElem hlt]
    rfl
  rw [e]
  exact ⟨atI_nat (by rw [List.getElem?_map, List.getElem?_eq_getElem hlt]; rfl), by omega, List.getElem_mem hlt⟩
local macro_rules | `(tactic| walk_at "rel") => `(tactic| first
  | exact ⟨_, 0, rfl, rfl⟩ | exact ⟨_, 1, rfl, rfl⟩ | exact ⟨_, 2, rfl, rfl⟩ | exact ⟨_, 3, rfl, rfl⟩
  | exact ⟨_, _, rfl, rfl⟩)
section
variable {M : Md}
theorem fc_drawn {f : Addr} {fd : FuncData} (F : Fun M.K "_law_drawn" "_law_drawn" s__law_drawn f fd) (gm : M.mg "_law_drawn" = some (.ref f)) (bd : Binds M.K fd ["script", "cells"] [])
    (hlen : M.mg "len" = none) (cC : Fc M CX0 "_law_cell_at" 1 (spG M.K rCell)) (cQ : Fc M CX0 "_law_lies" 3 (spG M.K rLies)) : Fc M CX0 "_law_drawn" 4 (spG M.K rDrawn) := by
  refine fc_of F gm bd sc__law_drawn (fun ds r h => ?_) (by decide) fun X o fs ds r h F0 H σ Q E S dn => ?_
  · obtain ⟨ns, cs, _, rfl, _⟩ := h
    rfl
  · obtain ⟨ns, cs, hcs, rfl, rfl⟩ := h
    refine s_cons ?_
    walk_at "set"
    intro v1 F1 H1 g1 S1
    refine s_cons ?_
    walk_at "set"
    intro v2 F2 H2 g2 S2
    unfold placeC at dn
    generalize cellAt ns 2 = cell at *
    have G2 := g1.trans g2
    let Mid : L2.St → Hp → Prop := fun σ' H' => ∃ F' : Hp, Grow F0 H F' H' ∧ Stt M.K F' H' σ' [some (scr ns), some (.list (cs.map tP)), some (.int cell), some (tP (if (!cs.isEmpty && decide (0 < cell % 4)) = true then cs.getD (cell / 4 % (cs.length : Nat)).toNat (0, 0) else (cell / 4 % 11 - 1, cell / 44 % 11 - 1))), none]
    refine s_cut Mid ?c1 ?c2
    case c1 =>
      refine' t_if (c := !cs.isEmpty && decide (0 < cell % 4)) S2 (XW.xb (w_and (XB.to (b_ne (d1 := .list (cs.map tP)) (d2 := .list []) o ?a1 ?a2 (pl_tPs cs) rfl) ?a3) fun _ => w_and1 (b_gt ?a4 ?a5))) ?t ?f
      case a1 => walk_at "xh"
      case a2 => walk_at "xh"
      case a3 =>
        rw [eqv_empty]
        cases cs <;> rfl
      case a4 => walk_at "xh"
      case a5 => walk_at "xh"
      case t =>
        intro hc F3 H3 g3 S3
        have he : cs.isEmpty = false := by
          rw [Bool.and_eq_true, Bool.not_eq_true'] at hc
          exact hc.1
        obtain ⟨h1, h2, _⟩ := cell_ix he (cell / 4)
        refine s_one (t_set (d := tP (cs.getD (cell / 4 % (cs.length : Nat)).toNat (0, 0))) o fs S3 (by walk_at "ix") (x_ixL (ds := cs.map tP) o.toOk0 ?b1 (x_mod ?b2 (x_len o.toOk0 hlen ?b3 (by decide +kernel)) h2) h1) (fun v4 F4 H4 g4 S4 => ?_) (by decide +kernel))
        case b1 => walk_at "xd"
        case b2 => walk_at "xd"
        case b3 => walk_at "xh"
        refine ⟨F4, (G2.trans g3).trans g4, ?_⟩
        rw [if_pos hc]
        exact S4
      case f =>
        intro hc F3 H3 g3 S3
        refine s_nil ⟨F3, G2.trans g3, ?_⟩
        rw [if_neg (by rw [hc]; exact Bool.false_ne_true)]
        exact S3
    case c2 =>
      rintro σ3 H3 ⟨F3, G3, S3⟩
      generalize (if (!cs.isEmpty && decide (0 < cell % 4)) = true then cs.getD (cell / 4 % (cs.length : Nat)).toNat (0, 0) else (cell / 4 % 11 - 1, cell / 44 % 11 - 1)) = p at *
      refine s_cons (t_set (d := tL (lieAt (cellAt ns 3))) o fs S3 (by walk_at "ix") (x_ixL o.toOk0 (XO.xd (o_call0 o cQ pz0 ⟨rfl, rfl⟩ (by decide) (by decide +kernel))) (by walk_at "xd") (lieAt_ix _).1) (fun v4 F4 H4 g4 S4 => ?_) (by decide +kernel))
      have G4 := G3.trans g4
      unfold lieC at dn
      let Mid2 : L2.St → Hp → Prop := fun σ' H' => ∃ F' : Hp, Grow F0 H F' H' ∧ Stt M.K F' H' σ' [some (scr ns), some (.list (cs.map tP)), some (.int cell), some (tP p), some (tL (if (cellAt ns 3 / 24 % 5 == 1) = true then ((lieAt (cellAt ns 3)).2.2, (lieAt (cellAt ns 3)).2.1, (lieAt (cellAt ns 3)).1) else lieAt (cellAt ns 3)))]
      refine s_cut Mid2 ?d1 ?d2
      case d1 =>
        refine' t_if (c := cellAt ns 3 / 24 % 5 == 1) S4 (b_eq (d1 := .int (cellAt ns 3 / 24 % 5)) (d2 := .int 1) o ?e1 x_int.xh rfl rfl) ?t2 ?f2
        case e1 => walk_at "xh"
        case t2 =>
          intro hc F5 H5 g5 S5
          refine s_one ?_
          walk_at "set"
          intro v6 F6 H6 g6 S6
          refine ⟨F6, (G4.trans g5).trans g6, ?_⟩
          rw [if_pos hc]
          exact S6
        case f2 =>
          intro hc F5 H5 g5 S5
          refine s_nil ⟨F5, G4.trans g5, ?_⟩
          rw [if_neg (by rw [hc]; exact Bool.false_ne_true)]
          exact S5
      case d2 =>
        rintro σ5 H5 ⟨F5, G5, S5⟩
        exact s_one (t_done (E := E) S5 (by walk_at "xd") (dn.grow G5))
end
end Roll

namespace Roll
open PySem L2 Lay
local macro_rules | `(tactic| walk_at "rel") => `(tactic| first
  | exact ⟨_, 0, rfl, rfl⟩)
section
variable {M : Md}
theorem fc_pick {f : Addr} {fd : FuncData} (F : Fun M.K "_law_pick" "_law_pick" s__law_pick f fd) (gm : M.mg "_law_pick" = some (.ref f)) (bd : Binds M.K fd ["script", "k"] [])
    (hlen : M.mg "len" = none) (cC : Fc M CX0 "_law_cell_at" 1 (spG M.K rCell)) : Fc M CX0 "_law_pick" 2 (spG M.K rPick) := by
  refine fc_of F gm bd sc__law_pick (fun ds r h => ?_) (by decide) fun X o fs ds r h F0 H σ Q E S dn => ?_
  · obtain ⟨ns, k, _, rfl, _⟩ := h
    rfl
  · obtain ⟨ns, k, hk0, rfl, rfl⟩ := h
    unfold pickC at dn
    refine s_cons ?_
    refine' t_if (c := decide ((k : Int) < (ns.length : Nat))) S (b_lt ?c1 (XD.xh (x_lenScr o.toOk0 hlen ?c2 (by decide +kernel)))) ?t ?f
    case c1 => walk_at "xh"
    case c2 => walk_at "xh"
    case t =>
      intro hc F' H' g S'
      have hk : k < ns.length := by
        have := of_decide_eq_true hc
        omega
      rw [if_pos hk] at dn
      refine s_one (t_done (E := E) S' (x_ixScr (ns := ns) (i := k) o.toOk0 (by walk_at "xd") (by walk_at "xd") ?_) (dn.grow g))
      show ns[k]? = some (ns.getD k 0)
      rw [List.getD_eq_getElem?_getD, List.getElem?_eq_getElem hk]
      rfl
    case f =>
      intro hc F' H' g S'
      have hk : ¬ k < ns.length := by
        have := of_decide_eq_false hc
        omega
      rw [if_neg hk] at dn
      refine s_nil (s_one (t_done (E := E) S' ?_ (dn.grow g)))
      walk_at "xd"
end
end Roll

namespace Roll
open PySem L2 Lay
def rMix (ds : List PyData) (r : Out) : Prop := ∃ cell k : Int, ds = [.int cell, .int k] ∧ r = .val (.int (mix cell k))
section
variable {M : Md}
theorem fc_mix {f : Addr} {fd : FuncData} (F : Fun M.K "_law_mix" "_law_mix" s__law_mix f fd) (gm : M.mg "_law_mix" = some (.ref f)) (bd : Binds M.K fd ["cell", "k"] []) : Fc M CX0 "_law_mix" 1 (spG M.K rMix) := by
  refine fc_of F gm bd sc__law_mix (fun ds r h => ?_) (by decide) fun X o fs ds r h F0 H σ Q E S dn => ?_
  · obtain ⟨c, k, rfl, _⟩ := h
    rfl
  · obtain ⟨c, k, rfl, rfl⟩ := h
    have h1 := Int.emod_nonneg (c * 69621 + 7001 * k + 3) (show (2147483629 : Int) ≠ 0 by decide)
    have h2 := Int.emod_lt_of_pos (c * 69621 + 7001 * k + 3) (show (0 : Int) < 2147483629 by decide)
    refine s_cons ?_
    walk_at "set"
    intro v F1 H1 g1 S1
    generalize hm : (c * 69621 + 7001 * k + 3) % 2147483629 = m1 at h1 h2 S1
    have b1 : -(2 ^ 64) < m1 ∧ m1 < 2 ^ 64 := by omega
    have h3 := Int.emod_nonneg (m1 * m1 + 39373 * m1 + k) (show (2147483647 : Int) ≠ 0 by decide)
    have h4 := Int.emod_lt_of_pos (m1 * m1 + 39373 * m1 + k) (show (0 : Int) < 2147483647 by decide)
    refine s_cons ?_
    walk_at "set"
    intro v F2 H2 g2 S2
    generalize hm2 : (m1 * m1 + 39373 * m1 + k) % 2147483647 = m2 at h3 h4 S2
    have b2 : -(2 ^ 64) < m2 ∧ m2 < 2 ^ 64 := by omega
    refine s_one (t_done (E := E) S2 ?_ ((dn.grow g1).grow g2))
    refine XD.to (d1 := .int ((m2 * m2 + 16807 * m2 + 7 * k) % 2147483587)) (by walk_at "xd") ?_
    rw [← hm2, ← hm]
    rfl
end
end Roll

namespace Roll
open PySem L2 Lay
/-! the law's own floor -/
def rareC (z : Int) : Int := ([2, 4, 9, 99] : List Int).getD (z % 4).toNat 2
theorem rare_ix (z : Int) : atI [PyData.int 2, .int 4, .int 9, .int 99] (z % 4) = some (.int (rareC z)) ∧ 1 ≤ rareC z := by
  have h := mod4 z
  unfold rareC
  generalize z % 4 = m at h
  have : m = 0 ∨ m = 1 ∨ m = 2 ∨ m = 3 := by omega
  rcases this with rfl | rfl | rfl | rfl
  · exact ⟨rfl, by decide⟩
  · exact ⟨rfl, by decide⟩
  · exact ⟨rfl, by decide⟩
  · exact ⟨rfl, by decide⟩
def lineC (c1 rare : Int) (i : Nat) (m : Nat) : List Nat := (List.range m).map fun j : Nat => Flo.fsign (mix c1 (10 * (i : Int) + (j : Int)) / 7 % rare == 0)
def rowsC (c1 rare : Int) (m n : Nat) : Flo.Rows := (List.range n).map fun i => lineC c1 rare i m
def floorC (ns : List Int) (most : Int) : Flo.Rows := rowsC (cellAt ns 1) (rareC (cellAt ns 0 / 64)) (1 + cellAt ns 0 / 8 % most).toNat (1 + cellAt ns 0 % most).toNat
theorem floorC_ok (ns : List Int) {most : Int} (h : 1 ≤ most ∧ most ≤ 8) : Flo.okF (floorC ns most) = true := by
  have h1 := Int.emod_nonneg (cellAt ns 0) (show most ≠ 0 by omega)
  have h2 := Int.emod_lt_of_pos (cellAt ns 0) (show 0 < most by omega)
  have h3 := Int.emod_nonneg (cellAt ns 0 / 8) (show most ≠ 0 by omega)
  have h4 := Int.emod_lt_of_pos (cellAt ns 0 / 8) (show 0 < most by omega)
  refine (Flo.okF_rect (n := (1 + cellAt ns 0 % most).toNat) (m := (1 + cellAt ns 0 / 8 % most).toNat) ?_ (by omega) (by omega) fun r hr => ?_).1
  · unfold floorC rowsC
    rw [List.length_map, List.length_range]
  · unfold floorC rowsC at hr
    obtain ⟨i, _, rfl⟩ := List.mem_map.mp hr
    unfold lineC
    refine ⟨by rw [List.length_map, List.length_range], List.all_eq_true.mpr fun c hc => ?_⟩
    obtain ⟨j, _, rfl⟩ := List.mem_map.mp hc
    exact Flo.fsign_sign _
theorem line_snoc (c1 rare : Int) (i m : Nat) : lineC c1 rare i (m + 1) = lineC c1 rare i m ++ [Flo.fsign (mix c1 (10 * (i : Int) + (m : Int)) / 7 % rare == 0)] := by
  unfold lineC
  rw [List.range_succ, List.map_append]
  rfl
theorem rows_snoc (c1 rare : Int) (m n : Nat) : rowsC c1 rare m (n + 1) = rowsC c1 rare m n ++ [lineC c1 rare n m] := by
  unfold rowsC
  rw [List.range_succ, List.map_append]
  rfl
theorem fsign_at (b : Bool) : atI (".#" : Str).cps.toList (if b then 1 else 0) = some (Flo.fsign b) := by
  rw [signs_list]
  cases b <;> rfl
def rFloor (ds : List PyData) (r : Out) : Prop := ∃ (ns : List Int) (most : Int), (1 ≤ most ∧ most ≤ 8) ∧ ds = [scr ns, .int 0, .int most] ∧ r = .own ((floorC ns most).map tS)
local macro_rules | `(tactic| walk_at "rel") => `(tactic| first
  | exact ⟨_, 0, rfl, rfl⟩ | exact ⟨_, 1, rfl, rfl⟩
  | exact ⟨_, _, rfl, rfl⟩)
section
variable {M : Md}
theorem fc_law_floor {f : Addr} {fd : FuncData} (F : Fun M.K "_law_floor" "_law_floor" s__law_floor f fd) (gm : M.mg "_law_floor" = some (.ref f)) (bd : Binds M.K fd ["script", "start", "most"] [])
    (hran : M.mg "range" = none) (hint : M.mg "int" = none) (cC : Fc M CX0 "_law_cell_at" 1 (spG M.K rCell)) (cM : Fc M CX0 "_law_mix" 1 (spG M.K rMix)) : Fc M CX0 "_law_floor" 2 (spG M.K rFloor) := by
  refine fc_of F gm bd sc__law_floor (fun ds r h => ?_) (by decide) fun X o fs ds r h F0 H σ Q E S dn => ?_
  · obtain ⟨ns, most, _, rfl, _⟩ := h
    rfl
  · obtain ⟨ns, most, hm, rfl, rfl⟩ := h
    have hpos : 0 < most := by omega
    unfold floorC at dn
    refine s_cons ?_
    walk_at "set"
    intro v1 F1 H1 g1 S1
    have m1 := Int.emod_nonneg (cellAt ns 0) (show most ≠ 0 by omega)
    have m2 := Int.emod_lt_of_pos (cellAt ns 0) (show 0 < most by omega)
    have m3 := Int.emod_nonneg (cellAt ns 0 / 8) (show most ≠ 0 by omega)
    have m4 := Int.emod_lt_of_pos (cellAt ns 0 / 8) (show 0 < most by omega)
    obtain ⟨hr, hr1⟩ := rare_ix (cellAt ns 0 / 64)
    generalize cellAt ns 0 = cell at *
    refine s_cons ?_
    walk_at "set"
    intro v2 F2 H2 g2 S2
    refine s_cons ?_
    walk_at "set"
    intro v3 F3 H3 g3 S3
    refine s_cons ?_
    walk_at "set"
    intro v4 F4 H4 g4 S4
    generalize rareC (cell / 64) = rare at *
    generalize hn : 1 + cell % most = n at *
    generalize hmm : 1 + cell / 8 % most = m at *
    have hn1 : 1 ≤ n ∧ n ≤ 8 := by omega
    have hm1 : 1 ≤ m ∧ m ≤ 8 := by omega
    have G4 := ((g1.trans g2).trans g3).trans g4
    have hrp : 0 < rare := by omega
    refine s_cons (t_setO o fs S4 (by walk_at "ix") (x_lst a_nil (Nat.le_of_ble_eq_true rfl)) (fun l us F5 H5 g5 fF fH hl r S5 => ?_) (by decide +kernel))
    have w5 : Ow M.K F4 H4 F5 H5 l ((rowsC (cellAt ns 1) rare m.toNat 0).map tS) := ow_new g5 fF fH hl r
    clear S1 S2 S3 hr
    refine s_cons ?_
    refine t_forR o fs S5 (by walk_at "ix") (r_1 (n := n) o.toOk0 hran (by walk_at "xd") (by omega)) (fun i F' σ' H' => (Ow M.K F4 H4 F' H' l ((rowsC (cellAt ns 1) rare m.toNat i).map tS) ∧ σ'[7]? = some (some (.ref l))) ∧ Stt M.K F' H' σ' [some (scr ns), some (.int 0), some (.int most), some (.int cell), some (.int n), some (.int m), some (.int rare), none, none, none, none, none]) ?_ ?_ ?_
    · intro F' H' g S'
      exact ⟨⟨w5.grow g, List.getElem?_set_self (by rw [← S4.ln]; exact Nat.le_of_ble_eq_true rfl)⟩, S'.less ⟨.inr rfl, .inr rfl, .inr rfl, .inr rfl, .inr rfl, .inr rfl, .inr rfl, .inl rfl, .inl rfl, .inl rfl, .inl rfl, .inl rfl, trivial⟩⟩
    · rintro i F' σ' H' hi e1 e2 ⟨⟨w, hv⟩, S'⟩
      have S6 := S'.set (i := 8) (v := .int (0 + (i : Int))) (d := .int (0 + (i : Int))) (.int _)
      have hv6 : (σ'.set 8 (some (.int (0 + (i : Int)))))[7]? = some (some (.ref l)) := by
        rw [List.getElem?_set_ne (by decide)]
        exact hv
      rw [show (0 : Int) + (i : Int) = (i : Int) by omega] at S6 hv6 ⊢
      refine s_cons (t_set (d := tS (lineC (cellAt ns 1) rare i 0)) o fs S6 (by walk_at "ix") (XD.to x_str (congrArg PyData.str tx_nil.symm)) (fun v7 F7 H7 g7 S7 => ?_) (by decide +kernel))
      have hv7 : ((σ'.set 8 (some (.int (i : Int)))).set 9 (some v7))[7]? = some (some (.ref l)) := by
        rw [List.getElem?_set_ne (by decide)]
        exact hv6
      refine s_cons ?_
      refine t_forR o fs S7 (by walk_at "ix") (r_1 (n := m) o.toOk0 hran (by walk_at "xd") (by omega)) (fun j F8 σ8 H8 => (Ow M.K F4 H4 F8 H8 l ((rowsC (cellAt ns 1) rare m.toNat i).map tS) ∧ σ8[7]? = some (some (.ref l))) ∧ Stt M.K F8 H8 σ8 [some (scr ns), some (.int 0), some (.int most), some (.int cell), some (.int n), some (.int m), some (.int rare), none, some (.int (i : Int)), some (tS (lineC (cellAt ns 1) rare i j)), none, none]) ?_ ?_ ?_
      · intro F8 H8 g8 S8
        exact ⟨⟨(w.grow g7).grow g8, hv7⟩, S8.less ⟨.inr rfl, .inr rfl, .inr rfl, .inr rfl, .inr rfl, .inr rfl, .inr rfl, .inl rfl, .inr rfl, .inr rfl, .inl rfl, .inl rfl, trivial⟩⟩
      · rintro j F8 σ8 H8 hj e3 e4 ⟨⟨w8, hv8⟩, S8⟩
        have S9 := S8.set (i := 10) (v := .int (0 + (j : Int))) (d := .int (0 + (j : Int))) (.int _)
        have hv9 : (σ8.set 10 (some (.int (0 + (j : Int)))))[7]? = some (some (.ref l)) := by
          rw [List.getElem?_set_ne (by decide)]
          exact hv8
        rw [show (0 : Int) + (j : Int) = (j : Int) by omega] at S9 hv9 ⊢
        refine s_cons ?_
        walk_at "set"
        intro v10 F10 H10 g10 S10
        refine s_one (t_set (d := tS (lineC (cellAt ns 1) rare i (j + 1))) o fs S10 (by walk_at "ix") ?e1 (fun v11 F11 H11 g11 S11 => ?_) (by decide +kernel))
        case e1 =>
          refine XD.to (x_adds (x := tx (lineC (cellAt ns 1) rare i j)) (y := tx [Flo.fsign (mix (cellAt ns 1) (10 * (i : Int) + (j : Int)) / 7 % rare == 0)]) (by walk_at "xd") (XD.to (x_ixS (z := ".#") x_str (x_intB o.toOk0 hint ?b (by decide +kernel)) (by decide +kernel) (fsign_at _)) (congrArg PyData.str (tx_one _).symm)) ?z) (by rw [line_snoc, tx_app])
          case b => walk_at "xdt"
          case z =>
            rw [tx_len, tx_len]
            unfold lineC
            rw [List.length_map, List.length_range]
            exact Nat.le_trans (show _ ≤ 100 by show j + 1 ≤ 100; omega) (by decide)
        refine ⟨F11, g10.ex.trans g11.ex, g11.le, ⟨(w8.grow g10).grow g11, ?_⟩, S11.less ⟨.inr rfl, .inr rfl, .inr rfl, .inr rfl, .inr rfl, .inr rfl, .inr rfl, .inl rfl, .inr rfl, .inr rfl, .inl rfl, .inl rfl, trivial⟩⟩
        rw [List.getElem?_set_ne (by decide), List.getElem?_set_ne (by decide)]
        exact hv9
      · rintro F8 σ8 H8 e3 e4 ⟨⟨w8, hv8⟩, S8⟩
        refine s_one (t_append (d := tS (lineC (cellAt ns 1) rare i m.toNat)) o S8 w8 (by walk_at "ix") hv8 ?z2 (by walk_at "xd") (fun us us' F9 H9 g9 hl9 S9 w9 => ?_) (by decide +kernel))
        case z2 =>
          unfold rowsC
          rw [List.length_map, List.length_map, List.length_range]
          omega
        refine ⟨F9, (g7.ex.trans e3).trans g9.ex, S9.le, ⟨?_, hv8⟩, S9.less ⟨.inr rfl, .inr rfl, .inr rfl, .inr rfl, .inr rfl, .inr rfl, .inr rfl, .inl rfl, .inl rfl, .inl rfl, .inl rfl, .inl rfl, trivial⟩⟩
        rw [rows_snoc, List.map_append]
        exact w9
    · rintro F' σ' H' e1 e2 ⟨⟨w, hv⟩, S'⟩
      exact s_one (t_retL (E := E) o.toOk0 w (by walk_at "ix") hv (dn.grow G4) (by decide +kernel))
end
end Roll

namespace Roll
open PySem L2 Lay
def rWhole (ds : List PyData) (r : Out) : Prop := ∃ z : Int, ds = [.int z] ∧ r = .val (.bool true)
section
variable {M : Md}
theorem fc_whole {f : Addr} {fd : FuncData} (F : Fun M.K "_law_whole" "_law_whole" s__law_whole f fd) (gm : M.mg "_law_whole" = some (.ref f)) (bd : Binds M.K fd ["x"] [])
    (hisi : M.mg "isinstance" = none) (hint : M.mg "int" = none) (hbool : M.mg "bool" = none) : Fc M CX0 "_law_whole" 1 (spG M.K rWhole) := by
  refine fc_of F gm bd sc__law_whole (fun ds r h => ?_) (by decide) fun X o fs ds r h F0 H σ Q E S dn => ?_
  · obtain ⟨z, rfl, _⟩ := h
    rfl
  · obtain ⟨z, rfl, rfl⟩ := h
    refine s_one (t_done (E := E) S ?_ dn)
    refine XD.to (v_and (c := true) (c' := true) ?a fun _ => v_one ?b) rfl
    case a => walk_at "xd"
    case b => exact XD.to (v_not (c := false) (by walk_at "isi")) rfl
end
end Roll

namespace Roll
open PySem L2 Lay
def rRefused (ds : List PyData) (r : Out) : Prop := ∃ (ms : List Bool) (w : Int), ds = [.list (ms.map PyData.bool), .int w] ∧ r = .val (.bool (ms == marksOf w))
section
variable {M : Md}
theorem fc_refused {f : Addr} {fd : FuncData} (F : Fun M.K "_law_refused" "_law_refused" s__law_refused f fd) (gm : M.mg "_law_refused" = some (.ref f)) (bd : Binds M.K fd ["marks", "which"] [])
    (hran : M.mg "range" = none) : Fc M CX0 "_law_refused" 1 (spG M.K rRefused) := by
  refine fc_of F gm bd sc__law_refused (fun ds r h => ?_) (by decide) fun X o fs ds r h F0 H σ Q E S dn => ?_
  · obtain ⟨ms, w, rfl, _⟩ := h
    rfl
  · obtain ⟨ms, w, rfl, rfl⟩ := h
    refine s_one (t_done (E := E) S ?_ dn)
    refine' XD.to (x_eq (d1 := .list (ms.map PyData.bool)) (d2 := .list ((marksOf w).map PyData.bool)) o ?a (XD.xh (XO.xd (XO.to (x_addl (XO.xd (o_lcX (lo := 0) (n := 5) o [("k", 2)] 2 (fun _ => true) (fun k => .bool ((k : Int) == w)) ?r (by decide +kernel) (by decide) rfl (by decide +kernel) (.inl rfl) (by decide) ?b (fun _ _ => rfl))) (XO.xd ?l) ?z) ?e))) (pl_bools _) (pl_bools _)) ?f
    case a => walk_at "xh"
    case r => exact r_n o.toOk0 hran x_int (by decide) (by decide +kernel)
    case b =>
      intro i hi F1 H1 g
      have S2 := S.blk (vs := [2]) (j := 2) (v := .int (0 + (i : Int))) (d := .int (0 + (i : Int))) g (.int _)
      refine Blk.no fun Y oY => ?_
      rw [show (0 : Int) + (i : Int) = (i : Int) by omega] at S2 ⊢
      walk_at "xdt"
    case l => walk_at "xo"
    case z => exact Nat.le_of_ble_eq_true rfl
    case e => rfl
    case f =>
      show PyData.bool (PyData.eqvAll _ _) = _
      rw [eqv_bools]
end
end Roll

namespace Roll
open PySem L2 Lay
def rLike (ds : List PyData) (r : Out) : Prop := ∃ as bs : List Int, as.length ≤ 100 ∧ ds = [.tuple (as.map PyData.int), .tuple (bs.map PyData.int)] ∧ r = .val (.bool (as == bs))
local macro_rules | `(tactic| walk_at "rel") => `(tactic| first
  | exact ⟨_, rfl, rfl⟩)
section
variable {M : Md}
theorem fc_like {f : Addr} {fd : FuncData} (F : Fun M.K "_law_lie_like" "_law_lie_like" s__law_lie_like f fd) (gm : M.mg "_law_lie_like" = some (.ref f)) (bd : Binds M.K fd ["found", "due"] [])
    (hisi : M.mg "isinstance" = none) (htup : M.mg "tuple" = none) (hall : M.mg "all" = none) (cW : Fc M CX0 "_law_whole" 1 (spG M.K rWhole)) : Fc M CX0 "_law_lie_like" 2 (spG M.K rLike) := by
  refine fc_of F gm bd sc__law_lie_like (fun ds r h => ?_) (by decide) fun X o fs ds r h F0 H σ Q E S dn => ?_
  · obtain ⟨as, bs, _, rfl, _⟩ := h
    rfl
  · obtain ⟨as, bs, hl, rfl, rfl⟩ := h
    refine s_one (t_done (E := E) S ?_ dn)
    refine XD.to (v_and (c := true) (c' := true && (as == bs)) ?a fun _ => v_and (c := true) (c' := (as == bs)) ?b fun _ => v_one ?c) rfl
    case a => walk_at "xd"
    case b =>
      refine XD.to (x_all (bs := as.map fun _ => true) o hall (XD.xh (XO.xd (XO.to (o_lc o [("number", 2)] 2 PyData.int as (fun _ => true) (fun _ => .bool true) S.le (.inr (by walk_at "xd")) (by decide +kernel) (by decide) rfl (by decide +kernel) (.inl rfl) (by omega) ?d (fun _ _ => rfl)) ?e))) (by decide +kernel)) ?f
      case d =>
        intro z hm v F1 H1 g r
        have S2 := S.blk (vs := [2]) (j := 2) g r
        exact Blk.no fun Y oY => by walk_at "xd"
      case e =>
        unfold kept
        rw [List.filter_eq_self.mpr (fun _ _ => rfl), List.map_map]
        rfl
      case f =>
        have : (as.map fun _ => true).all id = true := by
          rw [List.all_eq_true]
          intro x hx
          obtain ⟨_, _, rfl⟩ := List.mem_map.mp hx
          rfl
        rw [this]
    case c =>
      refine XD.to (x_eq (d1 := .tuple (as.map PyData.int)) (d2 := .tuple (bs.map PyData.int)) o ?g ?h (pl_tints _) (pl_tints _)) ?i
      case g => walk_at "xh"
      case h => walk_at "xh"
      case i =>
        show PyData.bool (PyData.eqvAll _ _) = _
        rw [eqv_ints]
end
end Roll

namespace Roll
open PySem L2 Lay
/-- the classes of errors by number: NoFloor, NoCell, NoLie, NoRoll, NoWay -/
structure Errs (M : Md) (CD C0 C1 C2 C3 C4 : Addr) : Prop where
  gD : M.mg "DieError" = some (.ref CD)
  g0 : M.mg "NoFloor" = some (.ref C0)
  g1 : M.mg "NoCell" = some (.ref C1)
  g2 : M.mg "NoLie" = some (.ref C2)
  g3 : M.mg "NoRoll" = some (.ref C3)
  g4 : M.mg "NoWay" = some (.ref C4)
  gV : M.mg "ValueError" = none
  gI : M.mg "isinstance" = none
/-- an error of the class at C, the w-th -/
structure Er (M : Md) (CD C0 C1 C2 C3 C4 C : Addr) (w : Int) : Prop where
  ec : ExcC M.K C
  ex : PySem.W.exmOne M.K (.ref C) (.ref CD) = some true
  k0 : PySem.W.kitOne M.K (.ref C) (.ref C0) = some (((0 : Nat) : Int) == w)
  k1 : PySem.W.kitOne M.K (.ref C) (.ref C1) = some (((1 : Nat) : Int) == w)
  k2 : PySem.W.kitOne M.K (.ref C) (.ref C2) = some (((2 : Nat) : Int) == w)
  k3 : PySem.W.kitOne M.K (.ref C) (.ref C3) = some (((3 : Nat) : Int) == w)
  k4 : PySem.W.kitOne M.K (.ref C) (.ref C4) = some (((4 : Nat) : Int) == w)
  kV : PySem.W.kitOne M.K (.ref C) (.type "ValueError") = some true
abbrev gi (sc : Scope) (x : Str) : Prop := sc.names.lookup x = some .globalImplicit
/-- what a def that is told must see in its scope -/
def toldB (sc : Scope) : Bool := decide (gi sc "isinstance") && decide (gi sc "DieError") && decide (gi sc "NoFloor") && decide (gi sc "NoCell") &&
  decide (gi sc "NoLie") && decide (gi sc "NoRoll") && decide (gi sc "NoWay") && decide (gi sc "ValueError") &&
  nameB sc "e" && nameB sc "marks" && decide (sc.names.lookup ("e" : Str) = some .local) && locB sc "marks"
structure ToldS (sc : Scope) : Prop where
  i : gi sc "isinstance"
  d : gi sc "DieError"
  n0 : gi sc "NoFloor"
  n1 : gi sc "NoCell"
  n2 : gi sc "NoLie"
  n3 : gi sc "NoRoll"
  n4 : gi sc "NoWay"
  v : gi sc "ValueError"
  ne : nameB sc "e" = true
  nm : nameB sc "marks" = true
  le : sc.names.lookup ("e" : Str) = some .local
  lm : locB sc "marks" = true
theorem told_of {sc : Scope} (h : toldB sc = true) : ToldS sc := by
  unfold toldB at h
  simp only [Bool.and_eq_true, decide_eq_true_eq] at h
  obtain ⟨⟨⟨⟨⟨⟨⟨⟨⟨⟨⟨h1, h2⟩, h3⟩, h4⟩, h5⟩, h6⟩, h7⟩, h8⟩, h9⟩, h10⟩, h11⟩, h12⟩ := h
  exact ⟨h1, h2, h3, h4, h5, h6, h7, h8, h9, h10, h11, h12⟩
section
variable {M : Md} {CD C0 C1 C2 C3 C4 C : Addr} {w : Int}
theorem suite_ok {Z : Cx} {N : List Str} {sc : Scope} {a : Addr} {σ : L2.St} {env : List (Option PyData)} {F H : Hp} {D : Ends} {im ie : Nat} {u0 u1 u2 u3 u4 u5 u6 u7 u8 u9 u10 u11 u12 u13 u14 u15 u16 u17 u18 u19 u20 u21 u22 u23 u24 u25 u26 u27 u28 u29 u30 u31 : Pos}
    (su : Suite M Z N sc a (.ref C) none) (er : Errs M CD C0 C1 C2 C3 C4) (ee : Er M CD C0 C1 C2 C3 C4 C w) (ts : ToldS sc) (S : Stt M.K F H σ env) (hm : At N im "marks") (he : At N ie "e") (hne : im ≠ ie) (hlt : im < env.length) (hv : σ[ie]? = some (some (.ref a)))
    (kk : ∀ v F' H', Grow F H F' H' → Dn M.K F' v (.list ((marksOf w).map PyData.bool)) → D.nx (σ.set im (some v)) H') :
    WS Z [.Assign [.Name "marks" u0] (.List [.Call (.Name "isinstance" u1) [.Name "e" u2, .Name "NoFloor" u3] [] u4, .Call (.Name "isinstance" u5) [.Name "e" u6, .Name "NoCell" u7] [] u8, .Call (.Name "isinstance" u9) [.Name "e" u10, .Name "NoLie" u11] [] u12, .Call (.Name "isinstance" u13) [.Name "e" u14, .Name "NoRoll" u15] [] u16] u17) u18,
      .Assign [.Name "marks" u19] (.BinOp (.Name "marks" u20) .Add (.List [.Call (.Name "isinstance" u21) [.Name "e" u22, .Name "NoWay" u23] [] u24, .Call (.Name "isinstance" u25) [.Name "e" u26, .Name "ValueError" u27] [] u28] u29) u30) u31] D σ H := by
  have o := su.ok
  have nb := ts.nm
  unfold nameB at nb
  simp only [Bool.and_eq_true, Bool.not_eq_true'] at nb
  refine s_cons (s_set (d := .list ([((0 : Nat) : Int) == w, ((1 : Nat) : Int) == w, ((2 : Nat) : Int) == w, ((3 : Nat) : Int) == w].map PyData.bool)) o su.fs im (XO.xd (x_lst (a_cons (x_isE su ee.ec er.gI ie he.get hv er.g0 ee.k0 ts.i ts.n0 ts.ne (by decide +kernel)) (a_cons (x_isE su ee.ec er.gI ie he.get hv er.g1 ee.k1 ts.i ts.n1 ts.ne (by decide +kernel))
    (a_cons (x_isE su ee.ec er.gI ie he.get hv er.g2 ee.k2 ts.i ts.n2 ts.ne (by decide +kernel)) (a_cons (x_isE su ee.ec er.gI ie he.get hv er.g3 ee.k3 ts.i ts.n3 ts.ne (by decide +kernel)) a_nil)))) (Nat.le_of_ble_eq_true rfl))) S.le (fun v F1 H1 g1 r1 => ?_) hm.get ts.lm)
  have hv1 : (σ.set im (some v))[ie]? = some (some (.ref a)) := by
    rw [List.getElem?_set_ne hne]
    exact hv
  have hmv : (σ.set im (some v))[im]? = some (some v) := by
    exact List.getElem?_set_self (by rw [← S.ln]; exact hlt)
  refine s_one (s_set (d := .list ((marksOf w).map PyData.bool)) o su.fs im (XD.to (XO.xd (x_addl (x_slot o im hmv r1 hm.get nb.1.1 nb.1.2 nb.2) (XO.xd (x_lst (a_cons (x_isE su ee.ec er.gI ie he.get hv1 er.g4 ee.k4 ts.i ts.n4 ts.ne (by decide +kernel)) (a_cons (x_isEB su ee.ec er.gI ie he.get hv1 er.gV (show bootBuiltins ("ValueError" : Str) = some (.type "ValueError") by decide +kernel) ee.kV ts.i ts.v ts.ne (by decide +kernel) (by decide +kernel)) a_nil)) (Nat.le_of_ble_eq_true rfl))) (Nat.le_of_ble_eq_true rfl))) rfl) g1.le (fun v2 F2 H2 g2 r2 => ?_) hm.get ts.lm)
  rw [List.set_set]
  exact kk v2 F2 H2 (g1.trans g2) r2

/-- found = None; marks = []; try: found = e0 except DieError as e: marks = ..; return (found, marks) -/
theorem told_ok {X : Cx} {N : List Str} {sc : Scope} {k : Nat} {σ : L2.St} {env : List (Option PyData)} {F H : Hp} {D : Ends} {E : XK} {jf im ie c1 c2 : Nat} {e0 : Expr} {r : Out} {pe v0 v1 v2 v3 v4 v5 v6 v7 v8 v9 v10 v11 v12 v13 v14 v15 v16 v17 v18 v19 v20 v21 v22 v23 v24 v25 v26 v27 v28 v29 v30 v31 v32 v33 v34 v35 v36 v37 v38 w0 w1 w2 w3 w4 w5 w6 : Pos}
    (o : Ok M X N sc k) (fs : Fs X) (er : Errs M CD C0 C1 C2 C3 C4) (ts : ToldS sc) (S : Stt M.K F H σ env) (hf : At N jf "found") (hm : At N im "marks") (he : At N ie "e") (d1 : jf ≠ im) (d2 : jf ≠ ie) (d3 : im ≠ ie) (l1 : jf < env.length) (l2 : im < env.length) (l3 : ie < env.length) (nf : nameB sc "found" = true) (lf : locB sc "found" = true)
    (hs : ∀ Y : Cx, swapsWith e0 (some (.Name "found" v6)) pe.line Y.env = pure false)
    (hr : (∃ d, r = .val d) ∨ (∃ C w, r = .err C ∧ Er M CD C0 C1 C2 C3 C4 C w))
    (hcall : ∀ (W : WX) (Y : Cx) (Q : VK) (σ' : L2.St) (F' H' : Hp), Ok M Y N sc k → Takes Y W → Stt M.K F' H' σ' ((env.set jf (some .none)).set im (some (.list []))) → EndsIn M W σ' F' H' Q r → WE Y e0 σ' H' Q)
    (kv : ∀ d, r = .val d → Done M.K F H D.rt E (.val (.tuple [d, .list []]))) (kx : ∀ C w, r = .err C → Er M CD C0 C1 C2 C3 C4 C w → Done M.K F H D.rt E (.val (.tuple [.none, .list ((marksOf w).map PyData.bool)]))) :
    WS X [.Assign [.Name "found" v0] (.Constant .none c1 v1) v2, .Assign [.Name "marks" v3] (.List [] v4) v5, .Try [.Assign [.Name "found" v6] e0 pe] [.ExceptHandler (some (.Name "DieError" w0)) (some "e") [.Assign [.Name "marks" v7] (.List [.Call (.Name "isinstance" v8) [.Name "e" v9, .Name "NoFloor" v10] [] v11, .Call (.Name "isinstance" v12) [.Name "e" v13, .Name "NoCell" v14] [] v15, .Call (.Name "isinstance" v16) [.Name "e" v17, .Name "NoLie" v18] [] v19, .Call (.Name "isinstance" v20) [.Name "e" v21, .Name "NoRoll" v22] [] v23] v24) v25, .Assign [.Name "marks" v26] (.BinOp (.Name "marks" v27) .Add (.List [.Call (.Name "isinstance" v28) [.Name "e" v29, .Name "NoWay" v30] [] v31, .Call (.Name "isinstance" v32) [.Name "e" v33, .Name "ValueError" v34] [] v35] v36) v37) v38] w1] [] [] w2, .Return (some (.Tuple [.Name "found" w3, .Name "marks" w4] c2 w5)) w6] D σ H := by
  refine s_cons (t_set o fs S hf x_non (fun v1 F1 H1 g1 S1 => ?_) lf)
  refine s_cons (t_set o fs S1 hm (XO.xd (x_lst a_nil (Nat.le_of_ble_eq_true rfl))) (fun v2 F2 H2 g2 S2 => ?_) ts.lm)
  have ln2 : ((env.set jf (some PyData.none)).set im (some (PyData.list []))).length = env.length := by rw [List.length_set, List.length_set]
  refine s_cons ?_
  rcases hr with ⟨d, rfl⟩ | ⟨C, w, rfl, ee⟩
  · refine t_try (c := .ref CD) o fs he ts.le ts.d (by decide +kernel) er.gD fun W hW Y oY fY tkY => ?_
    refine s_one (s_setW oY.toOk0 fY jf (hcall W Y _ _ F2 H2 oY tkY S2 ?_) hf.get lf (hs Y))
    intro v F3 H3 g3 r3
    have S3 := (S2.grow g3).set (i := jf) r3
    refine s_one (t_done (E := E) S3 ?_ ((((kv d rfl).grow g1).grow g2).grow g3))
    refine x_tup (a_cons (v_ o S3 hf ?_ nf) (a_cons (v_ o S3 hm ?_ ts.nm) a_nil)) (Nat.le_of_ble_eq_true rfl)
    · exact List.getElem?_set_self (by rw [ln2]; exact l1)
    · rw [List.getElem?_set_ne d1]
      exact List.getElem?_set_self (by rw [List.length_set]; exact l2)
  · refine t_try (c := .ref CD) o fs he ts.le ts.d (by decide +kernel) er.gD fun W hW Y oY fY tkY => ?_
    refine s_one (s_setW oY.toOk0 fY jf (hcall W Y _ _ F2 H2 oY tkY S2 ?_) hf.get lf (hs Y))
    intro F3 H3 g3
    refine hW C _ _ ee.ex fun Z a ha su => ?_
    have S3 := (S2.grow g3).lose (i := ie) (o := some (.ref a))
    refine suite_ok su er ee ts S3 hm he d3 (by rw [List.length_set, ln2]; exact l2) (List.getElem?_set_self (by rw [← (S2.grow g3).ln, ln2]; exact l3)) fun v F4 H4 g4 r4 => ?_
    show WS X _ D _ _
    have S4 := ((S3.grow g4).set (i := im) r4).lose (i := ie) (o := none)
    refine s_one (t_done (E := E) S4 ?_ (((((kx C w rfl ee).grow g1).grow g2).grow g3).grow g4))
    refine x_tup (a_cons (v_ o S4 hf ?_ nf) (a_cons (v_ o S4 hm ?_ ts.nm) a_nil)) (Nat.le_of_ble_eq_true rfl)
    · rw [List.getElem?_set_ne (Ne.symm d2), List.getElem?_set_ne (Ne.symm d1), List.getElem?_set_ne (Ne.symm d2), List.getElem?_set_ne (Ne.symm d1)]
      exact List.getElem?_set_self l1
    · rw [List.getElem?_set_ne (Ne.symm d3)]
      exact List.getElem?_set_self (by rw [List.length_set, ln2]; exact l2)
abbrev refD (w : Int) : PyData := .tuple [.none, .list ((marksOf w).map PyData.bool)]
theorem er_two {M : Md} {CD C0 C1 C2 C3 C4 C : Addr} {w v : Int} (e : Er M CD C0 C1 C2 C3 C4 C w) (e' : Er M CD C0 C1 C2 C3 C4 C v) (hw : w = 0 ∨ w = 1 ∨ w = 2 ∨ w = 3 ∨ w = 4) : v = w := by
  have h : ∀ n : Nat, w = (n : Int) → (((n : Nat) : Int) == w) = (((n : Nat) : Int) == v) → v = w := fun n h1 h2 => by
    subst h1
    rw [beq_self_eq_true] at h2
    exact (eq_of_beq h2.symm).symm
  rcases hw with h1 | h1 | h1 | h1 | h1
  · exact h 0 h1 (Option.some.inj (e.k0.symm.trans e'.k0))
  · exact h 1 h1 (Option.some.inj (e.k1.symm.trans e'.k1))
  · exact h 2 h1 (Option.some.inj (e.k2.symm.trans e'.k2))
  · exact h 3 h1 (Option.some.inj (e.k3.symm.trans e'.k3))
  · exact h 4 h1 (Option.some.inj (e.k4.symm.trans e'.k4))
theorem told_ok2 {X : Cx} {N : List Str} {sc : Scope} {k : Nat} {σ : L2.St} {env : List (Option PyData)} {F H : Hp} {D : Ends} {E : XK} {jf im ie c1 c2 : Nat} {e0 : Expr} {r : Out} {dd : PyData} {pe v0 v1 v2 v3 v4 v5 v6 v7 v8 v9 v10 v11 v12 v13 v14 v15 v16 v17 v18 v19 v20 v21 v22 v23 v24 v25 v26 v27 v28 v29 v30 v31 v32 v33 v34 v35 v36 v37 v38 w0 w1 w2 w3 w4 w5 w6 : Pos}
    (o : Ok M X N sc k) (fs : Fs X) (er : Errs M CD C0 C1 C2 C3 C4) (ts : ToldS sc) (S : Stt M.K F H σ env) (hf : At N jf "found") (hm : At N im "marks") (he : At N ie "e") (d1 : jf ≠ im) (d2 : jf ≠ ie) (d3 : im ≠ ie) (l1 : jf < env.length) (l2 : im < env.length) (l3 : ie < env.length) (nf : nameB sc "found" = true) (lf : locB sc "found" = true)
    (hs : ∀ Y : Cx, swapsWith e0 (some (.Name "found" v6)) pe.line Y.env = pure false)
    (hr : (∃ d, r = .val d ∧ dd = .tuple [d, .list []]) ∨ (∃ C w, r = .err C ∧ Er M CD C0 C1 C2 C3 C4 C w ∧ (w = 0 ∨ w = 1 ∨ w = 2 ∨ w = 3 ∨ w = 4) ∧ dd = refD w))
    (hcall : ∀ (W : WX) (Y : Cx) (Q : VK) (σ' : L2.St) (F' H' : Hp), Ok M Y N sc k → Takes Y W → Stt M.K F' H' σ' ((env.set jf (some .none)).set im (some (.list []))) → EndsIn M W σ' F' H' Q r → WE Y e0 σ' H' Q)
    (dn : Done M.K F H D.rt E (.val dd)) :
    WS X [.Assign [.Name "found" v0] (.Constant .none c1 v1) v2, .Assign [.Name "marks" v3] (.List [] v4) v5, .Try [.Assign [.Name "found" v6] e0 pe] [.ExceptHandler (some (.Name "DieError" w0)) (some "e") [.Assign [.Name "marks" v7] (.List [.Call (.Name "isinstance" v8) [.Name "e" v9, .Name "NoFloor" v10] [] v11, .Call (.Name "isinstance" v12) [.Name "e" v13, .Name "NoCell" v14] [] v15, .Call (.Name "isinstance" v16) [.Name "e" v17, .Name "NoLie" v18] [] v19, .Call (.Name "isinstance" v20) [.Name "e" v21, .Name "NoRoll" v22] [] v23] v24) v25, .Assign [.Name "marks" v26] (.BinOp (.Name "marks" v27) .Add (.List [.Call (.Name "isinstance" v28) [.Name "e" v29, .Name "NoWay" v30] [] v31, .Call (.Name "isinstance" v32) [.Name "e" v33, .Name "ValueError" v34] [] v35] v36) v37) v38] w1] [] [] w2, .Return (some (.Tuple [.Name "found" w3, .Name "marks" w4] c2 w5)) w6] D σ H := by
  refine told_ok (E := E) (r := r) o fs er ts S hf hm he d1 d2 d3 l1 l2 l3 nf lf hs ?_ hcall ?_ ?_
  · rcases hr with ⟨d, h1, _⟩ | ⟨C, w, h1, h2, _⟩
    · exact .inl ⟨d, h1⟩
    · exact .inr ⟨C, w, h1, h2⟩
  · intro d hd
    rcases hr with ⟨d', h1, h2⟩ | ⟨C, w, h1, _⟩
    · rw [h1] at hd
      cases hd
      rw [← h2]
      exact dn
    · rw [h1] at hd
      cases hd
  · intro C w hd ee
    rcases hr with ⟨d', h1, h2⟩ | ⟨C', w', h1, h2, h3, h4⟩
    · rw [h1] at hd
      cases hd
    · rw [h1] at hd
      cases hd
      have := er_two h2 ee h3
      subst this
      show Done M.K F H D.rt E (.val (refD w))
      rw [← h4]
      exact dn
end
end Roll

namespace Roll
open PySem L2 Lay
def told05 (f : Flo.Rows) (s : Sta.Sd) (cs : List Nat) : PyData := if Sta.isCell f s.1 = true then (if Die.isLie s.2 = true then (match Sta.walk f s cs with
  | some t => .tuple [tSd t, .list []]
  | none => refD 3) else refD 2) else refD 1
def rTold05 (ds : List PyData) (r : Out) : Prop := ∃ (f : Flo.Rows) (s : Sta.Sd) (cs : List Nat), Flo.okF f = true ∧ ds = [fl f, tSd s, .str (tx cs)] ∧ r = .val (told05 f s cs)
section
variable {M : Md} {CD C0 C1 C2 C3 C4 : Addr}
theorem fc_told {f : Addr} {fd : FuncData} (F : Fun M.K "_law_told" "_law_told" s__law_told f fd) (gm : M.mg "_law_told" = some (.ref f)) (bd : Binds M.K fd ["floor", "stand", "rolls"] [])
    (er : Errs M CD C0 C1 C2 C3 C4) (e1 : Er M CD C0 C1 C2 C3 C4 C1 1) (e2 : Er M CD C0 C1 C2 C3 C4 C2 2) (e3 : Er M CD C0 C1 C2 C3 C4 C3 3) (cB : Fc M (L2.CX M.P M.w) "walked" 5 (spG M.K (rWalked C0 C1 C2 C3))) : Fc M CX0 "_law_told" 6 (spG M.K rTold05) := by
  refine fc_of F gm bd sc__law_told (fun ds r h => ?_) (by decide) fun X o fs ds r h F0 H σ Q E S dn => ?_
  · obtain ⟨f, s, cs, _, rfl, _⟩ := h
    rfl
  · obtain ⟨f, s, cs, hf, rfl, rfl⟩ := h
    refine told_ok2 (E := E) (dd := told05 f s cs) (r := walkedO C0 C1 C2 C3 f s cs) o fs er (told_of (by decide +kernel)) S (by walk_at "ix") (by walk_at "ix") (by walk_at "ix") (by decide) (by decide) (by decide) (Nat.le_of_ble_eq_true rfl) (Nat.le_of_ble_eq_true rfl) (Nat.le_of_ble_eq_true rfl) (by decide +kernel) (by decide +kernel) (fun _ => rfl) ?_ ?_ dn
    · unfold told05 walkedO
      rw [if_pos hf]
      by_cases h1 : Sta.isCell f s.1 = true
      · rw [if_pos h1, if_pos h1]
        by_cases h2 : Die.isLie s.2 = true
        · rw [if_pos h2, if_pos h2]
          cases Sta.walk f s cs with
          | none => exact .inr ⟨_, 3, rfl, e3, by decide, rfl⟩
          | some t => exact .inl ⟨_, rfl, rfl⟩
        · rw [if_neg h2, if_neg h2]
          exact .inr ⟨_, 2, rfl, e2, by decide, rfl⟩
      · rw [if_neg h1, if_neg h1]
        exact .inr ⟨_, 1, rfl, e1, by decide, rfl⟩
    · intro W Y Q' σ' F' H' oY tk S' kk
      exact x_callX oY cB tk S'.le (by walk_at "xa") ⟨f, s, cs, okF_short hf, rfl, rfl⟩ kk (by decide) (by decide +kernel)
end
theorem nx_ix (z : Int) : ∃ c : Nat, atI ("Nx 0" : Str).cps.toList (z % 4) = some c := by
  have e : ("Nx 0" : Str).cps.toList = [78, 120, 32, 48] := by decide +kernel
  rw [e]
  have h := mod4 z
  generalize z % 4 = m at h
  have : m = 0 ∨ m = 1 ∨ m = 2 ∨ m = 3 := by omega
  rcases this with rfl | rfl | rfl | rfl
  · exact ⟨_, rfl⟩
  · exact ⟨_, rfl⟩
  · exact ⟨_, rfl⟩
  · exact ⟨_, rfl⟩
theorem str_ix {cs : List Nat} (h : cs.isEmpty = false) (z : Int) : ∃ c : Nat, atI (cs.map fun c => PyData.str ⟨#[c]⟩) (z % (((cs.map fun c => PyData.str ⟨#[c]⟩).length : Nat) : Int)) = some (.str ⟨#[c]⟩) ∧ (0 : Int) < (((cs.map fun c => PyData.str ⟨#[c]⟩).length : Nat) : Int) := by
  have hl : 0 < cs.length := by
    cases cs with
    | nil => cases h
    | cons c cs => simp
  rw [List.length_map]
  have h1 := Int.emod_nonneg z (show ((cs.length : Nat) : Int) ≠ 0 by omega)
  have h2 := Int.emod_lt_of_pos z (show (0 : Int) < ((cs.length : Nat) : Int) by omega)
  obtain ⟨n, hn⟩ := Int.eq_ofNat_of_zero_le h1
  rw [hn]
  have hlt : n < cs.length := by omega
  exact ⟨cs[n], atI_nat (by rw [List.getElem?_map, List.getElem?_eq_getElem hlt]; rfl), by omega⟩
theorem pl_signs {cs : List Nat} (h : ∀ c ∈ cs, c < 1114112) : Pl (.list (cs.map fun c => PyData.str ⟨#[c]⟩)) := pl_list fun d hd => by
  obtain ⟨c, hc, rfl⟩ := List.mem_map.mp hd
  rw [← tx_one]
  exact tx_ok fun c' h' => by
    rw [List.mem_singleton] at h'
    subst h'
    exact h _ hc
theorem letter_ok (m : Int) : decide (letter (m % 4) ∈ ([101, 110, 115, 119] : List Nat)) = true := by
  have h := mod4 m
  generalize m % 4 = z at h
  have : z = 0 ∨ z = 1 ∨ z = 2 ∨ z = 3 := by omega
  rcases this with rfl | rfl | rfl | rfl <;> decide
def due5 (f : Flo.Rows) (s : Sta.Sd) : Int := if Sta.isCell f s.1 = true then (if Die.isLie s.2 = true then -1 else 2) else 1
/-- what the loop keeps -/
def Rel5 (f : Flo.Rows) (s t : Sta.Sd) (cs : List Nat) (du : Int) : Prop := (0 ≤ due5 f s ∧ du = due5 f s) ∨ (due5 f s = -1 ∧ ((du = -1 ∧ Sta.walk f s cs = some t) ∨ (du = 3 ∧ Sta.walk f s cs = none)))
theorem due5_cases (f : Flo.Rows) (s : Sta.Sd) : due5 f s = -1 ∨ due5 f s = 2 ∨ due5 f s = 1 := by
  unfold due5
  split
  · split
    · exact .inl rfl
    · exact .inr (.inl rfl)
  · exact .inr (.inr rfl)
theorem due5_told {f : Flo.Rows} {s t : Sta.Sd} {cs : List Nat} {du : Int} (h : Rel5 f s t cs du) : (0 ≤ du ∧ told05 f s cs = refD du) ∨ (du = -1 ∧ told05 f s cs = .tuple [tSd t, .list []]) := by
  unfold told05
  unfold Rel5 at h
  unfold due5 at h
  by_cases h1 : Sta.isCell f s.1 = true
  · rw [if_pos h1] at h ⊢
    by_cases h2 : Die.isLie s.2 = true
    · rw [if_pos h2] at h ⊢
      rcases h with ⟨h, _⟩ | ⟨_, ⟨h, hw⟩ | ⟨h, hw⟩⟩
      · exact absurd h (by decide)
      · rw [hw]
        exact .inr ⟨h, rfl⟩
      · rw [hw]
        exact .inl ⟨by omega, by rw [h]⟩
    · rw [if_neg h2] at h ⊢
      rcases h with ⟨_, h⟩ | ⟨h, _⟩
      · exact .inl ⟨by omega, by rw [h]⟩
      · exact absurd h (by decide)
  · rw [if_neg h1] at h ⊢
    rcases h with ⟨_, h⟩ | ⟨h, _⟩
    · exact .inl ⟨by omega, by rw [h]⟩
    · exact absurd h (by decide)
theorem like2 {l m : Sta.P2} (h : l = m) : PyData.bool ([l.1, l.2] == [m.1, m.2]) = .bool true := by
  subst h
  rw [beq_self_eq_true]
local macro_rules | `(tactic| walk_at "rel") => `(tactic| first
  | exact ⟨_, 0, rfl, rfl⟩ | exact ⟨_, 2, rfl, rfl⟩ | exact ⟨_, 3, rfl, rfl⟩ | exact ⟨_, 4, rfl, rfl⟩
  | exact ⟨_, _, by decide, rfl, rfl⟩
  | exact ⟨_, by assumption, rfl, rfl⟩
  | exact ⟨_, _, by assumption, rfl, rfl⟩
  | exact ⟨_, (_, _), _, by assumption, rfl, rfl⟩
  | exact ⟨_, _, _, rfl, rfl⟩
  | exact ⟨_, _, rfl, rfl⟩
  | exact ⟨_, rfl, rfl⟩)
section
variable {M : Md} {CD C0 C1 C2 C3 C4 : Addr}
theorem ok_law {f : Addr} {fd : FuncData} (F : Fun M.K "law" "law" s_law f fd) (hlen : M.mg "len" = none) (hran : M.mg "range" = none) (hlist : M.mg "list" = none) (htup : M.mg "tuple" = none) (hisi : M.mg "isinstance" = none)
    (cC : Fc M CX0 "_law_cell_at" 1 (spG M.K rCell)) (cPk : Fc M CX0 "_law_pick" 2 (spG M.K rPick)) (cM : Fc M CX0 "_law_mix" 1 (spG M.K rMix)) (cF : Fc M CX0 "_law_refused" 1 (spG M.K rRefused)) (cFl : Fc M CX0 "_law_floor" 2 (spG M.K rFloor)) (cCe : Fc M CX0 "_law_cells" 1 (spG M.K rCells))
    (cD : Fc M CX0 "_law_drawn" 4 (spG M.K rDrawn)) (cJ : Fc M CX0 "_law_is_lie" 2 (spG M.K rIsLie)) (cN : Fc M CX0 "_law_next" 2 (spG M.K rNext)) (cL : Fc M CX0 "_law_lie_like" 2 (spG M.K rLike)) (cT : Fc M CX0 "_law_told" 6 (spG M.K rTold05)) : FnOk M.P M.w M.K M.mg M.base CX0 7 f fd ["script"] (spG M.K rLaw) := by
  refine ok_of F sc_law (fun ds r h => ?_) (by decide) fun X o fs ds r h F0 H σ Q E S dn => ?_
  · obtain ⟨ns, _, rfl, _⟩ := h
    rfl
  · obtain ⟨ns, _, rfl, rfl⟩ := h
    have hfok : Flo.okF (floorC ns 8) = true := floorC_ok ns (by decide)
    refine s_cons ?_
    walk_at "set"
    intro v1 F1 H1 g1 S1
    generalize floorC ns 8 = f at hfok S1
    refine s_cons ?_
    walk_at "set"
    intro v2 F2 H2 g2 S2
    have hcl : (Sta.cells f).length ≤ 100 := Nat.le_trans (cells_len hfok) (by decide)
    refine s_cons ?_
    walk_at "set"
    intro v3 F3 H3 g3 S3
    generalize (placeC ns (Sta.cells f), lieC (cellAt ns 3)) = s at S3
    refine s_cons (t_set (d := tP s.1) o fs S3 (by walk_at "ix") (by walk_at "xd") (fun v4 F4 H4 g4 S4 => ?_) (by decide +kernel))
    refine s_cons (t_set (d := tL s.2) o fs S4 (by walk_at "ix") (by walk_at "xd") (fun v5 F5 H5 g5 S5 => ?_) (by decide +kernel))
    refine s_cons (t_set (d := .int (-1)) o fs S5 (by walk_at "ix") (x_neg x_int) (fun v6 F6 H6 g6 S6 => ?_) (by decide +kernel))
    have G6 := ((((g1.trans g2).trans g3).trans g4).trans g5).trans g6
    let Mid : L2.St → Hp → Prop := fun σ' H' => ∃ F' : Hp, Grow F0 H F' H' ∧ Stt M.K F' H' σ' [some (scr ns), some (fl f), some (.list ((Sta.cells f).map tP)), some (tSd s), some (tP s.1), some (tL s.2), some (.int (if Die.isLie s.2 = true then -1 else 2)), none, none, none, none, none, none, none, none]
    refine s_cut Mid ?c1 ?c2
    case c1 =>
      refine' t_if (c := !Die.isLie s.2) S6 (b_not (b_val (x_call o cJ pz0 ?a1 ⟨s.2.1, s.2.2.1, s.2.2.2, rfl, rfl⟩ (by decide) (by decide +kernel)))) ?t1 ?f1
      case a1 => walk_at "xa"
      case t1 =>
        intro hc F7 H7 g7 S7
        rw [Bool.not_eq_true'] at hc
        refine s_one (t_set (d := .int 2) o fs S7 (by walk_at "ix") x_int (fun v8 F8 H8 g8 S8 => ⟨F8, (G6.trans g7).trans g8, ?_⟩) (by decide +kernel))
        rw [if_neg (by rw [hc]; exact Bool.false_ne_true)]
        exact S8
      case f1 =>
        intro hc F7 H7 g7 S7
        rw [Bool.not_eq_false'] at hc
        refine s_nil ⟨F7, G6.trans g7, ?_⟩
        rw [if_pos hc]
        exact S7
    case c2 =>
      clear S1 S2 S3 S4 S5 S6 g1 g2 g3 g4 g5 g6 G6
      rintro σ7 H7 ⟨F7, G7, S7⟩
      let Mid2 : L2.St → Hp → Prop := fun σ' H' => ∃ F' : Hp, Grow F0 H F' H' ∧ Stt M.K F' H' σ' [some (scr ns), some (fl f), some (.list ((Sta.cells f).map tP)), some (tSd s), some (tP s.1), some (tL s.2), some (.int (due5 f s)), none, none, none, none, none, none, none, none]
      refine s_cut Mid2 ?d1 ?d2
      case d1 =>
        refine' t_if (c := !Sta.isCell f s.1) S7 (XB.to (b_ninL (d := tP s.1) (ds := (Sta.cells f).map tP) o ?a2 ?a3 rfl (pl_tPs _)) (by rw [any_cells])) ?t2 ?f2
        case a2 => walk_at "xh"
        case a3 => walk_at "xh"
        case t2 =>
          intro hc F8 H8 g8 S8
          rw [Bool.not_eq_true'] at hc
          refine s_one (t_set (d := .int 1) o fs S8 (by walk_at "ix") x_int (fun v9 F9 H9 g9 S9 => ⟨F9, (G7.trans g8).trans g9, ?_⟩) (by decide +kernel))
          unfold due5
          rw [if_neg (by rw [hc]; exact Bool.false_ne_true)]
          exact S9
        case f2 =>
          intro hc F8 H8 g8 S8
          rw [Bool.not_eq_false'] at hc
          refine s_nil ⟨F8, G7.trans g8, ?_⟩
          unfold due5
          rw [if_pos hc]
          exact S8
      case d2 =>
        clear S7 G7
        rintro σ8 H8 ⟨F8, G8, S8⟩
        refine s_cons (t_set (d := tS []) o fs S8 (by walk_at "ix") (XD.to x_str (congrArg PyData.str tx_nil.symm)) (fun v9 F9 H9 g9 S9 => ?_) (by decide +kernel))
        have G9 := G8.trans g9
        have hn1 := Int.emod_nonneg (cellAt ns 4) (show (21 : Int) ≠ 0 by decide)
        have hn2 := Int.emod_lt_of_pos (cellAt ns 4) (show (0 : Int) < 21 by decide)
        let Pv : Nat → Hp → L2.St → Hp → Prop := fun i F' σ' H' => ∃ (cs : List Nat) (t : Sta.Sd) (du : Int), (cs.length ≤ i ∧ Rel5 f s t cs du) ∧ Grow F0 H F' H' ∧ Stt M.K F' H' σ' [some (scr ns), some (fl f), none, some (tSd t), some (tP s.1), some (tL s.2), some (.int du), some (tS cs), none, none, none, none, none, none, none]
        let Mid3 : L2.St → Hp → Prop := fun σ' H' => ∃ F', Pv (cellAt ns 4 % 21).toNat F' σ' H'
        refine s_cut Mid3 ?e1 ?e2
        case e1 =>
          refine t_forR o fs S9 (by walk_at "ix") (r_1 (n := cellAt ns 4 % 21) o.toOk0 hran ?r1 (by omega)) Pv ?h0 ?hs ?hd
          case r1 => walk_at "xd"
          case h0 =>
            intro F' H' g S'
            refine ⟨[], s, due5 f s, ⟨Nat.le_refl _, ?_⟩, G9.trans g, S'.less ⟨.inr rfl, .inr rfl, .inl rfl, .inr rfl, .inr rfl, .inr rfl, .inr rfl, .inr rfl, .inl rfl, .inl rfl, .inl rfl, .inl rfl, .inl rfl, .inl rfl, .inl rfl, trivial⟩⟩
            rcases due5_cases f s with h | h | h
            · exact .inr ⟨h, .inl ⟨h, rfl⟩⟩
            · exact .inl ⟨by omega, rfl⟩
            · exact .inl ⟨by omega, rfl⟩
          case hd =>
            rintro F' σ' H' e1 e2 P
            exact ⟨F', P⟩
          case hs =>
            rintro i F' σ' H' hi e1 e2 ⟨cs, t, du, ⟨hcs, hrel⟩, g, S'⟩
            have hi20 : i ≤ 20 := by omega
            have S10 := S'.set (i := 8) (v := .int (0 + (i : Int))) (d := .int (0 + (i : Int))) (.int _)
            rw [show (0 : Int) + (i : Int) = (i : Int) by omega] at S10 ⊢
            refine s_cons (t_set (d := .int (mix (pickC ns (6 + i)) (i : Int) / 7)) o fs S10 (by walk_at "ix") (x_fdiv (x_call o cM pz0 (a_cons (x_call o cPk pz0 (a_cons ?p1 (a_cons (XD.to (x_add x_int ?p2) (show PyData.int (6 + (i : Int)) = .int ((6 + i : Nat) : Int) by congr 1)) a_nil)) ⟨ns, 6 + i, by omega, rfl, rfl⟩ (by decide) (by decide +kernel)) (a_cons ?p3 a_nil)) ⟨_, _, rfl, rfl⟩ (by decide) (by decide +kernel)) x_int (by decide)) (fun v11 F11 H11 g11 S11 => ?_) (by decide +kernel))
            case p1 => walk_at "xd"
            case p2 => walk_at "xd"
            case p3 => walk_at "xd"
            generalize mix (pickC ns (6 + i)) (i : Int) / 7 = m at S11
            refine s_cons (t_set (d := .str ⟨#[letter (m % 4)]⟩) o fs S11 (by walk_at "ix") (x_ixS (z := "ensw") x_str ?p4 (by decide +kernel) (ensw_at (mod4 m))) (fun v12 F12 H12 g12 S12 => ?_) (by decide +kernel))
            case p4 => walk_at "xd"
            have g2' := g11.trans g12
            let Mid4 : L2.St → Hp → Prop := fun σ'' H'' => ∃ (F'' : Hp) (c : Nat), Same F' F'' ∧ Grow F0 H F'' H'' ∧ Stt M.K F'' H'' σ'' [some (scr ns), some (fl f), none, some (tSd t), some (tP s.1), some (tL s.2), some (.int du), some (tS cs), some (.int (i : Int)), some (.int m), some (.str ⟨#[c]⟩), none, none, none, none]
            have G12 := (g.trans g11).trans g12
            refine s_cut Mid4 ?h1 ?h2
            case h1 =>
              refine' t_if (c := decide (du < 0) && decide (0 < m / 4 % 12)) S12 (XW.xb (w_and (b_lt ?q1 x_int.xh) fun _ => w_and1 (b_gt ?q2 x_int.xh))) ?t3 ?f3
              case q1 => walk_at "xh"
              case q2 => walk_at "xh"
              case f3 =>
                intro _ F13 H13 g13 S13
                exact s_nil ⟨F13, _, g2'.ex.trans g13.ex, G12.trans g13, S13⟩
              case t3 =>
                intro _ F13 H13 g13 S13
                refine s_cons (t_setLcS o S13 [("one", 11)] 11 "ensw" (fun c => (Sta.next f t c).isSome) (fun c => .str ⟨#[c]⟩) (by walk_at "ix") (by decide +kernel) x_str (by decide +kernel) (by decide) rfl (by decide +kernel) (.inr ⟨_, rfl⟩) (by decide +kernel) ?lb ?lc (fun v14 F14 H14 g14 S14 => ?_) rfl rfl (by decide +kernel))
                case lb =>
                  intro c hc F15 H15 g15
                  rw [ensw_list] at hc
                  have S15 := S13.blk (vs := [11]) (j := 11) (v := .str ⟨#[c]⟩) (d := .str ⟨#[c]⟩) g15 (.str _)
                  refine Blk.one (fun Y oY => ?_) fun _ Y oY => by walk_at "xd"
                  refine XB.to (b_notN (d1 := oS (Sta.next f t c)) (XD.xh (x_call oY cN pz0 (by walk_at "xa") ⟨f, t, c, ⟨hfok, decide_eq_true hc⟩, rfl, rfl⟩ (by decide) (by decide +kernel)))) ?_
                  cases Sta.next f t c <;> rfl
                case lc =>
                  intro h
                  cases h
                rw [ensw_list, show kept [101, 110, 115, 119] (fun c => (Sta.next f t c).isSome) (fun c => PyData.str ⟨#[c]⟩) = (([101, 110, 115, 119] : List Nat).filter (fun c => (Sta.next f t c).isSome)).map (fun c => PyData.str ⟨#[c]⟩) from rfl] at S14
                have hcod : ∀ c ∈ ([101, 110, 115, 119] : List Nat).filter (fun c => (Sta.next f t c).isSome), c < 1114112 := fun c hc => by
                  have hc := (List.mem_filter.mp hc).1
                  simp only [List.mem_cons, List.not_mem_nil, or_false] at hc
                  omega
                generalize ([101, 110, 115, 119] : List Nat).filter (fun c => (Sta.next f t c).isSome) = gs at S14 hcod
                refine s_one ?_
                refine' t_if (c := !gs.isEmpty) S14 (XB.to (b_ne (d1 := .list (gs.map fun c => PyData.str ⟨#[c]⟩)) (d2 := .list []) o ?q3 ?q4 (pl_signs hcod) rfl) (by rw [eqv_empty]; cases gs <;> rfl)) ?t4 ?f4
                case q3 => walk_at "xh"
                case q4 => walk_at "xh"
                case f4 =>
                  intro _ F15 H15 g15 S15
                  exact s_nil ⟨F15, _, ((g2'.ex.trans g13.ex).trans g14.ex).trans g15.ex, ((G12.trans g13).trans g14).trans g15, S15.less ⟨.inr rfl, .inr rfl, .inr rfl, .inr rfl, .inr rfl, .inr rfl, .inr rfl, .inr rfl, .inr rfl, .inr rfl, .inr rfl, .inl rfl, .inl rfl, .inl rfl, .inl rfl, trivial⟩⟩
                case t4 =>
                  intro hc F15 H15 g15 S15
                  have he : gs.isEmpty = false := by rw [Bool.not_eq_true'] at hc; exact hc
                  obtain ⟨c, hc1, hc2⟩ := str_ix he (m / 48)
                  refine s_one (t_set (d := .str ⟨#[c]⟩) o fs S15 (by walk_at "ix") (x_ixL o.toOk0 ?q5 (x_mod ?q6 (x_len o.toOk0 hlen ?q7 (by decide +kernel)) hc2) hc1) (fun v16 F16 H16 g16 S16 => ?_) (by decide +kernel))
                  case q5 => walk_at "xd"
                  case q6 => walk_at "xd"
                  case q7 => walk_at "xh"
                  exact ⟨F16, _, (((g2'.ex.trans g13.ex).trans g14.ex).trans g15.ex).trans g16.ex, (((G12.trans g13).trans g14).trans g15).trans g16, S16.less ⟨.inr rfl, .inr rfl, .inr rfl, .inr rfl, .inr rfl, .inr rfl, .inr rfl, .inr rfl, .inr rfl, .inr rfl, .inr rfl, .inl rfl, .inl rfl, .inl rfl, .inl rfl, trivial⟩⟩
            case h2 =>
              clear S10 S11 S12 g11 g12 g2' G12 S'
              rintro σ13 H13 ⟨F13, c13, e13, G13, S13⟩
              refine s_cut Mid4 ?i1 ?i2
              case i1 =>
                obtain ⟨c, hc⟩ := nx_ix (m / 240)
                walk_at "if"
                · intro _ F14 H14 g14 S14
                  refine s_one (t_set (d := .str ⟨#[c]⟩) o fs S14 (by walk_at "ix") (x_ixS (z := "Nx 0") x_str ?q8 (by decide +kernel) hc) (fun v15 F15 H15 g15 S15 => ?_) (by decide +kernel))
                  case q8 => walk_at "xd"
                  exact ⟨F15, c, (e13.trans g14.ex).trans g15.ex, (G13.trans g14).trans g15, S15⟩
                · intro _ F14 H14 g14 S14
                  exact s_nil ⟨F14, c13, e13.trans g14.ex, G13.trans g14, S14⟩
              case i2 =>
                clear S13 G13 e13
                rintro σ14 H14 ⟨F14, c, e14, G14, S14⟩
                refine s_cons (t_set (d := tS (cs ++ [c])) o fs S14 (by walk_at "ix") (XD.to (x_adds (x := tx cs) (y := ⟨#[c]⟩) ?q9 ?q10 ?q11) (by rw [← tx_one, tx_app])) (fun v15 F15 H15 g15 S15 => ?_) (by decide +kernel))
                case q9 => walk_at "xd"
                case q10 => walk_at "xd"
                case q11 =>
                  rw [tx_len, ← tx_one, tx_len]
                  exact Nat.le_trans (show _ ≤ 100 by show _ + 1 ≤ 100; omega) (by decide)
                have hlen' : (cs ++ [c]).length ≤ i + 1 := by
                  rw [List.length_append]
                  show _ + 1 ≤ i + 1
                  omega
                have G15 := G14.trans g15
                have e15 := e14.trans g15.ex
                refine s_cons ?_
                by_cases hd0 : du < 0
                · have hdu : du = -1 ∧ due5 f s = -1 ∧ Sta.walk f s cs = some t := by
                    rcases hrel with ⟨h1, h2⟩ | ⟨h1, ⟨h2, h3⟩ | ⟨h2, h3⟩⟩
                    · omega
                    · exact ⟨h2, h1, h3⟩
                    · omega
                  obtain ⟨rfl, hdue, hw⟩ := hdu
                  have hw2 : Sta.walk f s (cs ++ [c]) = Sta.next f t c := by
                    rw [Sta.walk_snoc, hw]
                    rfl
                  cases hlc : decide (c ∈ ([101, 110, 115, 119] : List Nat)) with
                  | false =>
                    have hn : Sta.next f t c = none := by
                      have := Sta.step_letter (c := c)
                      rw [hlc] at this
                      unfold Sta.next
                      cases e : Sta.stepC c with
                      | none => rfl
                      | some d => rw [e] at this; cases this
                    refine' t_if (c := true) S15 (XB.to (XW.xb (w_and (c := true) (c' := true) (XB.to (b_lt (i := -1) (j := 0) ?m1 x_int.xh) rfl) fun _ => w_and1 (XW.xb (w_or (c := true) (c' := true) (XB.to (b_ninS (z := "ensw") ?m2 x_str) ?m3) fun z => Bool.noConfusion z)))) rfl) ?m4 (fun z => Bool.noConfusion z)
                    case m1 => walk_at "xh"
                    case m2 => walk_at "xd"
                    case m3 => rw [ensw_list, hlc]; rfl
                    case m4 =>
                      intro _ F16 H16 g16 S16
                      refine s_one (t_set (d := .int 3) o fs S16 (by walk_at "ix") x_int (fun v17 F17 H17 g17 S17 => ?_) (by decide +kernel))
                      refine s_one ?_
                      refine' t_if (c := false) S17 (XB.to (b_lt (i := 3) (j := 0) ?m5 x_int.xh) rfl) (fun z => Bool.noConfusion z) ?m6
                      case m5 => walk_at "xh"
                      case m6 =>
                        intro _ F18 H18 g18 S18
                        exact s_nil ⟨F18, ((e15.trans g16.ex).trans g17.ex).trans g18.ex, g18.le, cs ++ [c], t, 3, ⟨hlen', .inr ⟨hdue, .inr ⟨rfl, by rw [hw2, hn]⟩⟩⟩, ((G15.trans g16).trans g17).trans g18, S18.less ⟨.inr rfl, .inr rfl, .inl rfl, .inr rfl, .inr rfl, .inr rfl, .inr rfl, .inr rfl, .inl rfl, .inl rfl, .inl rfl, .inl rfl, .inl rfl, .inl rfl, .inl rfl, trivial⟩⟩
                  | true =>
                    cases hn : Sta.next f t c with
                    | none =>
                      refine' t_if (c := true) S15 (XB.to (XW.xb (w_and (c := true) (c' := true) (XB.to (b_lt (i := -1) (j := 0) ?m1 x_int.xh) rfl) fun _ => w_and1 (XW.xb (w_or (c := false) (c' := true) (XB.to (b_ninS (z := "ensw") ?m2 x_str) ?m3) fun _ => w_or1 (XB.to (b_isN (d1 := oS (Sta.next f t c)) (XD.xh (x_call o cN pz0 ?m7 ⟨f, t, c, ⟨hfok, hlc⟩, rfl, rfl⟩ (by decide) (by decide +kernel)))) (by rw [hn]; rfl)))))) rfl) ?m4 (fun z => Bool.noConfusion z)
                      case m1 => walk_at "xh"
                      case m2 => walk_at "xd"
                      case m3 => rw [ensw_list, hlc]; rfl
                      case m7 => walk_at "xa"
                      case m4 =>
                        intro _ F16 H16 g16 S16
                        refine s_one (t_set (d := .int 3) o fs S16 (by walk_at "ix") x_int (fun v17 F17 H17 g17 S17 => ?_) (by decide +kernel))
                        refine s_one ?_
                        refine' t_if (c := false) S17 (XB.to (b_lt (i := 3) (j := 0) ?m5 x_int.xh) rfl) (fun z => Bool.noConfusion z) ?m6
                        case m5 => walk_at "xh"
                        case m6 =>
                          intro _ F18 H18 g18 S18
                          exact s_nil ⟨F18, ((e15.trans g16.ex).trans g17.ex).trans g18.ex, g18.le, cs ++ [c], t, 3, ⟨hlen', .inr ⟨hdue, .inr ⟨rfl, by rw [hw2, hn]⟩⟩⟩, ((G15.trans g16).trans g17).trans g18, S18.less ⟨.inr rfl, .inr rfl, .inl rfl, .inr rfl, .inr rfl, .inr rfl, .inr rfl, .inr rfl, .inl rfl, .inl rfl, .inl rfl, .inl rfl, .inl rfl, .inl rfl, .inl rfl, trivial⟩⟩
                    | some u =>
                      refine' t_if (c := false) S15 (XB.to (XW.xb (w_and (c := true) (c' := false) (XB.to (b_lt (i := -1) (j := 0) ?m1 x_int.xh) rfl) fun _ => w_and1 (XW.xb (w_or (c := false) (c' := false) (XB.to (b_ninS (z := "ensw") ?m2 x_str) ?m3) fun _ => w_or1 (XB.to (b_isN (d1 := oS (Sta.next f t c)) (XD.xh (x_call o cN pz0 ?m7 ⟨f, t, c, ⟨hfok, hlc⟩, rfl, rfl⟩ (by decide) (by decide +kernel)))) (by rw [hn]; rfl)))))) rfl) (fun z => Bool.noConfusion z) ?m4
                      case m1 => walk_at "xh"
                      case m2 => walk_at "xd"
                      case m3 => rw [ensw_list, hlc]; rfl
                      case m7 => walk_at "xa"
                      case m4 =>
                        intro _ F16 H16 g16 S16
                        refine s_nil (s_one ?_)
                        refine' t_if (c := true) S16 (XB.to (b_lt (i := -1) (j := 0) ?m5 x_int.xh) rfl) ?m6 (fun z => Bool.noConfusion z)
                        case m5 => walk_at "xh"
                        case m6 =>
                          intro _ F17 H17 g17 S17
                          refine s_one (t_set (d := tSd u) o fs S17 (by walk_at "ix") (XD.to (x_call o cN pz0 ?m8 ⟨f, t, c, ⟨hfok, hlc⟩, rfl, rfl⟩ (by decide) (by decide +kernel)) (by rw [hn])) (fun v18 F18 H18 g18 S18 => ?_) (by decide +kernel))
                          case m8 => walk_at "xa"
                          exact ⟨F18, ((e15.trans g16.ex).trans g17.ex).trans g18.ex, g18.le, cs ++ [c], u, -1, ⟨hlen', .inr ⟨hdue, .inl ⟨rfl, by rw [hw2, hn]⟩⟩⟩, ((G15.trans g16).trans g17).trans g18, S18.less ⟨.inr rfl, .inr rfl, .inl rfl, .inr rfl, .inr rfl, .inr rfl, .inr rfl, .inr rfl, .inl rfl, .inl rfl, .inl rfl, .inl rfl, .inl rfl, .inl rfl, .inl rfl, trivial⟩⟩
                · have hrel' : Rel5 f s t (cs ++ [c]) du := by
                    rcases hrel with h | ⟨h1, ⟨h2, h3⟩ | ⟨h2, h3⟩⟩
                    · exact .inl h
                    · omega
                    · refine .inr ⟨h1, .inr ⟨h2, ?_⟩⟩
                      rw [Sta.walk_app, h3]
                      rfl
                  refine' t_if (c := false) S15 (XB.to (XW.xb (w_and (c := false) (c' := false) (XB.to (b_lt (i := du) (j := 0) ?m1 x_int.xh) (decide_eq_false hd0)) fun z => Bool.noConfusion z)) rfl) (fun z => Bool.noConfusion z) ?m4
                  case m1 => walk_at "xh"
                  case m4 =>
                    intro _ F16 H16 g16 S16
                    refine s_nil (s_one ?_)
                    refine' t_if (c := false) S16 (XB.to (b_lt (i := du) (j := 0) ?m5 x_int.xh) (decide_eq_false hd0)) (fun z => Bool.noConfusion z) ?m6
                    case m5 => walk_at "xh"
                    case m6 =>
                      intro _ F17 H17 g17 S17
                      exact s_nil ⟨F17, (e15.trans g16.ex).trans g17.ex, g17.le, cs ++ [c], t, du, ⟨hlen', hrel'⟩, (G15.trans g16).trans g17, S17.less ⟨.inr rfl, .inr rfl, .inl rfl, .inr rfl, .inr rfl, .inr rfl, .inr rfl, .inr rfl, .inl rfl, .inl rfl, .inl rfl, .inl rfl, .inl rfl, .inl rfl, .inl rfl, trivial⟩⟩
        case e2 =>
          clear S9 G9 g9 S8 G8
          rintro σ9 H9 ⟨F9, cs, t, du, ⟨hcs, hrel⟩, G9, S9⟩
          refine s_cons (t_set (d := fl f) o fs S9 (by walk_at "ix") (XO.xd (o_list o.toOk0 hlist (by walk_at "xd") (by decide +kernel))) (fun v10 F10 H10 g10 S10 => ?_) (by decide +kernel))
          refine s_cons (t_set (d := told05 f s cs) o fs S10 (by walk_at "ix") (x_call o cT pz0 ?a1 ⟨f, s, cs, hfok, rfl, rfl⟩ (by decide) (by decide +kernel)) (fun v11 F11 H11 g11 S11 => ?_) (by decide +kernel))
          case a1 => exact a_cons (by walk_at "xd") (a_cons (d := tSd s) (by walk_at "xd") (a_cons (by walk_at "xd") a_nil))
          refine s_cons ?_
          refine' t_if (c := false) S11 (XB.to (b_ne (d1 := fl f) (d2 := fl f) o (by walk_at "xh") (by walk_at "xh") (pl_fl (okF_codes hfok)) (pl_fl (okF_codes hfok))) ?a2) (fun z => Bool.noConfusion z) ?a3
          case a2 =>
            rw [show PyData.eqv (fl f) (fl f) = PyData.eqvAll (f.map tS) (f.map tS) from rfl, eqvAll_tS]
            rfl
          case a3 =>
            intro _ F12 H12 g12 S12
            have dn := (((dn.grow G9).grow g10).grow g11).grow g12
            refine s_nil (s_cons ?_)
            rcases due5_told hrel with ⟨h0, hT⟩ | ⟨h0, hT⟩
            · rw [hT] at S12
              refine' t_if (c := true) S12 (XB.to (b_ge (i := du) (j := 0) ?b1 x_int.xh) (decide_eq_true h0)) ?b2 (fun z => Bool.noConfusion z)
              case b1 => walk_at "xh"
              case b2 =>
                intro _ F13 H13 g13 S13
                refine s_one (t_done (E := E) S13 ?_ (dn.grow g13))
                refine XD.to (x_call o cF pz0 ?b3 ⟨marksOf du, du, rfl, rfl⟩ (by decide) (by decide +kernel)) (by rw [beq_self_eq_true])
                case b3 => walk_at "xa"
            · rw [hT] at S12
              subst h0
              refine' t_if (c := false) S12 (XB.to (b_ge (i := -1) (j := 0) ?b1 x_int.xh) rfl) (fun z => Bool.noConfusion z) ?b2
              case b1 => walk_at "xh"
              case b2 =>
                intro _ F13 H13 g13 S13
                refine s_nil (s_cons ?_)
                refine' t_if (c := false) S13 (XB.to (XW.xb (w_or (c := false) (c' := false) ?c1 fun _ => w_or (c := false) (c' := false) ?c2 fun _ => w_or1 ?c3)) rfl) (fun z => Bool.noConfusion z) ?c4
                case c1 => walk_at "xbt"
                case c2 => exact XB.to (b_not (c := true) (b_val (by walk_at "xd"))) rfl
                case c3 => exact XB.to (b_ne (d1 := .int 2) (d2 := .int 2) o (XD.xh (x_lenT (ds := [tP t.1, tL t.2]) o.toOk0 hlen (XD.xh (by walk_at "xd")) (by decide +kernel))) x_int.xh rfl rfl) rfl
                case c4 =>
                  intro _ F14 H14 g14 S14
                  refine s_nil (s_one (t_done (E := E) S14 ?_ ((dn.grow g13).grow g14)))
                  refine XD.to (v_and (c := true) (c' := true) ?k1 fun _ => v_one ?k2) rfl
                  case k1 =>
                    refine XD.to (x_call o cL pz0 ?k3 ⟨[t.1.1, t.1.2], [t.1.1, t.1.2], Nat.le_of_ble_eq_true rfl, rfl, rfl⟩ (by decide) (by decide +kernel)) (like2 rfl)
                    case k3 => exact a_cons (d := tP t.1) (by walk_at "xd") (a_cons (d := tP t.1) (by walk_at "xd") a_nil)
                  case k2 =>
                    refine XD.to (x_call o cL pz0 ?k4 ⟨[t.2.1, t.2.2.1, t.2.2.2], [t.2.1, t.2.2.1, t.2.2.2], Nat.le_of_ble_eq_true rfl, rfl, rfl⟩ (by decide) (by decide +kernel)) (like_true rfl)
                    case k4 => exact a_cons (d := tL t.2) (by walk_at "xd") (a_cons (d := tL t.2) (by walk_at "xd") a_nil)
end
end Roll

namespace Roll
open PySem L2 Lay
theorem gc_ints {M : Md} {h : Heap} {x : Str} {a : Addr} {dd : Option Addr} {its : Array Value} {n : Nat} {sl : Array (Option Value)} (ns : List Int) (hx : M.mg x = some (.ref a)) (l : M.K.lookup a = some ⟨.type "tuple", dd, .seq its n, sl⟩) (hv : Vals (ns.map V.int) its.toList) (hz : its.size ≤ sizeLine) : Gc M x (.tuple (ns.map PyData.int)) :=
  ⟨.ref a, .ref a, hx, rfl, fun F => .tup (.inr ⟨_, its, n, l, rfl, rfl, hz, hv⟩) (dns_ints ns)⟩
theorem all_mk {P : Program} {w : World} {K : PySem.W.Frag} {h : Heap} {mg : Str → Option Value} {fa : Addr} (X : K.In h) (G : h.Ns mainGlobals mg) (hfa : mg "law" = some (.ref fa))
    {f0 : Addr} {od0 an0 : Option Addr} {sl0 : Array (Option Value)} {oc0 kV0 dc0 pm0 cd0 ct0 : Value}
    {f1 : Addr} {od1 an1 : Option Addr} {sl1 : Array (Option Value)} {oc1 kV1 dc1 pm1 cd1 ct1 : Value}
    {f2 : Addr} {od2 an2 : Option Addr} {sl2 : Array (Option Value)} {oc2 kV2 dc2 pm2 cd2 ct2 : Value}
    {f3 : Addr} {od3 an3 : Option Addr} {sl3 : Array (Option Value)} {oc3 kV3 dc3 pm3 cd3 ct3 : Value}
    {f4 : Addr} {od4 an4 : Option Addr} {sl4 : Array (Option Value)} {oc4 kV4 dc4 pm4 cd4 ct4 : Value}
    {f5 : Addr} {od5 an5 : Option Addr} {sl5 : Array (Option Value)} {oc5 kV5 dc5 pm5 cd5 ct5 : Value}
    {f6 : Addr} {od6 an6 : Option Addr} {sl6 : Array (Option Value)} {oc6 kV6 dc6 pm6 cd6 ct6 : Value}
    {f7 : Addr} {od7 an7 : Option Addr} {sl7 : Array (Option Value)} {oc7 kV7 dc7 pm7 cd7 ct7 : Value}
    {f8 : Addr} {od8 an8 : Option Addr} {sl8 : Array (Option Value)} {oc8 kV8 dc8 pm8 cd8 ct8 : Value}
    {f9 : Addr} {od9 an9 : Option Addr} {sl9 : Array (Option Value)} {oc9 kV9 dc9 pm9 cd9 ct9 : Value}
    {f10 : Addr} {od10 an10 : Option Addr} {sl10 : Array (Option Value)} {oc10 kV10 dc10 pm10 cd10 ct10 : Value}
    {f11 : Addr} {od11 an11 : Option Addr} {sl11 : Array (Option Value)} {oc11 kV11 dc11 pm11 cd11 ct11 : Value}
    {f12 : Addr} {od12 an12 : Option Addr} {sl12 : Array (Option Value)} {oc12 kV12 dc12 pm12 cd12 ct12 : Value}
    {f13 : Addr} {od13 an13 : Option Addr} {sl13 : Array (Option Value)} {oc13 kV13 dc13 pm13 cd13 ct13 : Value}
    {f14 : Addr} {od14 an14 : Option Addr} {sl14 : Array (Option Value)} {oc14 kV14 dc14 pm14 cd14 ct14 : Value}
    {f15 : Addr} {od15 an15 : Option Addr} {sl15 : Array (Option Value)} {oc15 kV15 dc15 pm15 cd15 ct15 : Value}
    {f16 : Addr} {od16 an16 : Option Addr} {sl16 : Array (Option Value)} {oc16 kV16 dc16 pm16 cd16 ct16 : Value}
    {f17 : Addr} {od17 an17 : Option Addr} {sl17 : Array (Option Value)} {oc17 kV17 dc17 pm17 cd17 ct17 : Value}
    {f18 : Addr} {od18 an18 : Option Addr} {sl18 : Array (Option Value)} {oc18 kV18 dc18 pm18 cd18 ct18 : Value}
    {f19 : Addr} {od19 an19 : Option Addr} {sl19 : Array (Option Value)} {oc19 kV19 dc19 pm19 cd19 ct19 : Value}
    {f20 : Addr} {od20 an20 : Option Addr} {sl20 : Array (Option Value)} {oc20 kV20 dc20 pm20 cd20 ct20 : Value}
    {f21 : Addr} {od21 an21 : Option Addr} {sl21 : Array (Option Value)} {oc21 kV21 dc21 pm21 cd21 ct21 : Value}
    {f22 : Addr} {od22 an22 : Option Addr} {sl22 : Array (Option Value)} {oc22 kV22 dc22 pm22 cd22 ct22 : Value}
    {f23 : Addr} {od23 an23 : Option Addr} {sl23 : Array (Option Value)} {oc23 kV23 dc23 pm23 cd23 ct23 : Value}
    {f24 : Addr} {od24 an24 : Option Addr} {sl24 : Array (Option Value)} {oc24 kV24 dc24 pm24 cd24 ct24 : Value}
    {f25 : Addr} {od25 an25 : Option Addr} {sl25 : Array (Option Value)} {oc25 kV25 dc25 pm25 cd25 ct25 : Value}
    {f26 : Addr} {od26 an26 : Option Addr} {sl26 : Array (Option Value)} {oc26 kV26 dc26 pm26 cd26 ct26 : Value}
    {f27 : Addr} {od27 an27 : Option Addr} {sl27 : Array (Option Value)} {oc27 kV27 dc27 pm27 cd27 ct27 : Value}
    {CD C0 C1 C2 C3 C4 : Addr}
    {xPAIRS : Addr} {xoPAIRS : Option Addr} {xnPAIRS : Nat} {xsPAIRS : Array (Option Value)} {tPAIRS0 tPAIRS1 tPAIRS2 tPAIRS3 tPAIRS4 tPAIRS5 tPAIRS6 : Tok}
    {tMOST : Tok}
    {xST pn pe ps pw : Addr} {hn he hs hw : Int} {kn ke ks kw n0 n1 e0 e1 s0 s1 w0 w1 : Tok} {nST mn me ms mw : Nat} {dn de ds dw : Option Addr} {ln le ls lw : Array (Option Value)}
    (a0 : PySem.W.nsIn K mainGlobals "rolled_by" = some (some (.ref f0)))
    (l0 : K.lookup f0 = some ⟨oc0, od0, .func (PySem.W.fnOf "rolled_by" "rolled_by" (defArgs s_rolled_by) (defBody s_rolled_by) (defScope s_rolled_by) .none kV0 dc0 pm0 an0 cd0 ct0), sl0⟩)
    (c0 : PySem.W.codeIn K cd0 "rolled_by" = true)
    (k0 : PySem.W.keepIn K (.ref f0) = true)
    (a1 : PySem.W.nsIn K mainGlobals "pairs_of" = some (some (.ref f1)))
    (l1 : K.lookup f1 = some ⟨oc1, od1, .func (PySem.W.fnOf "pairs_of" "pairs_of" (defArgs s_pairs_of) (defBody s_pairs_of) (defScope s_pairs_of) .none kV1 dc1 pm1 an1 cd1 ct1), sl1⟩)
    (c1 : PySem.W.codeIn K cd1 "pairs_of" = true)
    (k1 : PySem.W.keepIn K (.ref f1) = true)
    (a2 : PySem.W.nsIn K mainGlobals "disorder" = some (some (.ref f2)))
    (l2 : K.lookup f2 = some ⟨oc2, od2, .func (PySem.W.fnOf "disorder" "disorder" (defArgs s_disorder) (defBody s_disorder) (defScope s_disorder) .none kV2 dc2 pm2 an2 cd2 ct2), sl2⟩)
    (c2 : PySem.W.codeIn K cd2 "disorder" = true)
    (k2 : PySem.W.keepIn K (.ref f2) = true)
    (a3 : PySem.W.nsIn K mainGlobals "is_lie" = some (some (.ref f3)))
    (l3 : K.lookup f3 = some ⟨oc3, od3, .func (PySem.W.fnOf "is_lie" "is_lie" (defArgs s_is_lie) (defBody s_is_lie) (defScope s_is_lie) .none kV3 dc3 pm3 an3 cd3 ct3), sl3⟩)
    (c3 : PySem.W.codeIn K cd3 "is_lie" = true)
    (k3 : PySem.W.keepIn K (.ref f3) = true)
    (a4 : PySem.W.nsIn K mainGlobals "must_be_lie" = some (some (.ref f4)))
    (l4 : K.lookup f4 = some ⟨oc4, od4, .func (PySem.W.fnOf "must_be_lie" "must_be_lie" (defArgs s_must_be_lie) (defBody s_must_be_lie) (defScope s_must_be_lie) .none kV4 dc4 pm4 an4 cd4 ct4), sl4⟩)
    (c4 : PySem.W.codeIn K cd4 "must_be_lie" = true)
    (k4 : PySem.W.keepIn K (.ref f4) = true)
    (a5 : PySem.W.nsIn K mainGlobals "must_be_floor" = some (some (.ref f5)))
    (l5 : K.lookup f5 = some ⟨oc5, od5, .func (PySem.W.fnOf "must_be_floor" "must_be_floor" (defArgs s_must_be_floor) (defBody s_must_be_floor) (defScope s_must_be_floor) .none kV5 dc5 pm5 an5 cd5 ct5), sl5⟩)
    (c5 : PySem.W.codeIn K cd5 "must_be_floor" = true)
    (k5 : PySem.W.keepIn K (.ref f5) = true)
    (a6 : PySem.W.nsIn K mainGlobals "is_cell" = some (some (.ref f6)))
    (l6 : K.lookup f6 = some ⟨oc6, od6, .func (PySem.W.fnOf "is_cell" "is_cell" (defArgs s_is_cell) (defBody s_is_cell) (defScope s_is_cell) .none kV6 dc6 pm6 an6 cd6 ct6), sl6⟩)
    (c6 : PySem.W.codeIn K cd6 "is_cell" = true)
    (k6 : PySem.W.keepIn K (.ref f6) = true)
    (a7 : PySem.W.nsIn K mainGlobals "must_be_cell" = some (some (.ref f7)))
    (l7 : K.lookup f7 = some ⟨oc7, od7, .func (PySem.W.fnOf "must_be_cell" "must_be_cell" (defArgs s_must_be_cell) (defBody s_must_be_cell) (defScope s_must_be_cell) .none kV7 dc7 pm7 an7 cd7 ct7), sl7⟩)
    (c7 : PySem.W.codeIn K cd7 "must_be_cell" = true)
    (k7 : PySem.W.keepIn K (.ref f7) = true)
    (a8 : PySem.W.nsIn K mainGlobals "must_be_stand" = some (some (.ref f8)))
    (l8 : K.lookup f8 = some ⟨oc8, od8, .func (PySem.W.fnOf "must_be_stand" "must_be_stand" (defArgs s_must_be_stand) (defBody s_must_be_stand) (defScope s_must_be_stand) .none kV8 dc8 pm8 an8 cd8 ct8), sl8⟩)
    (c8 : PySem.W.codeIn K cd8 "must_be_stand" = true)
    (k8 : PySem.W.keepIn K (.ref f8) = true)
    (a9 : PySem.W.nsIn K mainGlobals "next_stand" = some (some (.ref f9)))
    (l9 : K.lookup f9 = some ⟨oc9, od9, .func (PySem.W.fnOf "next_stand" "next_stand" (defArgs s_next_stand) (defBody s_next_stand) (defScope s_next_stand) .none kV9 dc9 pm9 an9 cd9 ct9), sl9⟩)
    (c9 : PySem.W.codeIn K cd9 "next_stand" = true)
    (k9 : PySem.W.keepIn K (.ref f9) = true)
    (a10 : PySem.W.nsIn K mainGlobals "walked" = some (some (.ref f10)))
    (l10 : K.lookup f10 = some ⟨oc10, od10, .func (PySem.W.fnOf "walked" "walked" (defArgs s_walked) (defBody s_walked) (defScope s_walked) .none kV10 dc10 pm10 an10 cd10 ct10), sl10⟩)
    (c10 : PySem.W.codeIn K cd10 "walked" = true)
    (k10 : PySem.W.keepIn K (.ref f10) = true)
    (a11 : PySem.W.nsIn K mainGlobals "_law_cell_at" = some (some (.ref f11)))
    (l11 : K.lookup f11 = some ⟨oc11, od11, .func (PySem.W.fnOf "_law_cell_at" "_law_cell_at" (defArgs s__law_cell_at) (defBody s__law_cell_at) (defScope s__law_cell_at) .none kV11 dc11 pm11 an11 cd11 ct11), sl11⟩)
    (c11 : PySem.W.codeIn K cd11 "_law_cell_at" = true)
    (k11 : PySem.W.keepIn K (.ref f11) = true)
    (a12 : PySem.W.nsIn K mainGlobals "_law_pick" = some (some (.ref f12)))
    (l12 : K.lookup f12 = some ⟨oc12, od12, .func (PySem.W.fnOf "_law_pick" "_law_pick" (defArgs s__law_pick) (defBody s__law_pick) (defScope s__law_pick) .none kV12 dc12 pm12 an12 cd12 ct12), sl12⟩)
    (c12 : PySem.W.codeIn K cd12 "_law_pick" = true)
    (k12 : PySem.W.keepIn K (.ref f12) = true)
    (a13 : PySem.W.nsIn K mainGlobals "_law_whole" = some (some (.ref f13)))
    (l13 : K.lookup f13 = some ⟨oc13, od13, .func (PySem.W.fnOf "_law_whole" "_law_whole" (defArgs s__law_whole) (defBody s__law_whole) (defScope s__law_whole) .none kV13 dc13 pm13 an13 cd13 ct13), sl13⟩)
    (c13 : PySem.W.codeIn K cd13 "_law_whole" = true)
    (k13 : PySem.W.keepIn K (.ref f13) = true)
    (a14 : PySem.W.nsIn K mainGlobals "_law_mix" = some (some (.ref f14)))
    (l14 : K.lookup f14 = some ⟨oc14, od14, .func (PySem.W.fnOf "_law_mix" "_law_mix" (defArgs s__law_mix) (defBody s__law_mix) (defScope s__law_mix) .none kV14 dc14 pm14 an14 cd14 ct14), sl14⟩)
    (c14 : PySem.W.codeIn K cd14 "_law_mix" = true)
    (k14 : PySem.W.keepIn K (.ref f14) = true)
    (a15 : PySem.W.nsIn K mainGlobals "_law_pairs" = some (some (.ref f15)))
    (l15 : K.lookup f15 = some ⟨oc15, od15, .func (PySem.W.fnOf "_law_pairs" "_law_pairs" (defArgs s__law_pairs) (defBody s__law_pairs) (defScope s__law_pairs) .none kV15 dc15 pm15 an15 cd15 ct15), sl15⟩)
    (c15 : PySem.W.codeIn K cd15 "_law_pairs" = true)
    (k15 : PySem.W.keepIn K (.ref f15) = true)
    (a16 : PySem.W.nsIn K mainGlobals "_law_odd" = some (some (.ref f16)))
    (l16 : K.lookup f16 = some ⟨oc16, od16, .func (PySem.W.fnOf "_law_odd" "_law_odd" (defArgs s__law_odd) (defBody s__law_odd) (defScope s__law_odd) .none kV16 dc16 pm16 an16 cd16 ct16), sl16⟩)
    (c16 : PySem.W.codeIn K cd16 "_law_odd" = true)
    (k16 : PySem.W.keepIn K (.ref f16) = true)
    (a17 : PySem.W.nsIn K mainGlobals "_law_is_lie" = some (some (.ref f17)))
    (l17 : K.lookup f17 = some ⟨oc17, od17, .func (PySem.W.fnOf "_law_is_lie" "_law_is_lie" (defArgs s__law_is_lie) (defBody s__law_is_lie) (defScope s__law_is_lie) .none kV17 dc17 pm17 an17 cd17 ct17), sl17⟩)
    (c17 : PySem.W.codeIn K cd17 "_law_is_lie" = true)
    (k17 : PySem.W.keepIn K (.ref f17) = true)
    (a18 : PySem.W.nsIn K mainGlobals "_law_lies" = some (some (.ref f18)))
    (l18 : K.lookup f18 = some ⟨oc18, od18, .func (PySem.W.fnOf "_law_lies" "_law_lies" (defArgs s__law_lies) (defBody s__law_lies) (defScope s__law_lies) .none kV18 dc18 pm18 an18 cd18 ct18), sl18⟩)
    (c18 : PySem.W.codeIn K cd18 "_law_lies" = true)
    (k18 : PySem.W.keepIn K (.ref f18) = true)
    (a19 : PySem.W.nsIn K mainGlobals "_law_roll" = some (some (.ref f19)))
    (l19 : K.lookup f19 = some ⟨oc19, od19, .func (PySem.W.fnOf "_law_roll" "_law_roll" (defArgs s__law_roll) (defBody s__law_roll) (defScope s__law_roll) .none kV19 dc19 pm19 an19 cd19 ct19), sl19⟩)
    (c19 : PySem.W.codeIn K cd19 "_law_roll" = true)
    (k19 : PySem.W.keepIn K (.ref f19) = true)
    (a20 : PySem.W.nsIn K mainGlobals "_law_floor" = some (some (.ref f20)))
    (l20 : K.lookup f20 = some ⟨oc20, od20, .func (PySem.W.fnOf "_law_floor" "_law_floor" (defArgs s__law_floor) (defBody s__law_floor) (defScope s__law_floor) .none kV20 dc20 pm20 an20 cd20 ct20), sl20⟩)
    (c20 : PySem.W.codeIn K cd20 "_law_floor" = true)
    (k20 : PySem.W.keepIn K (.ref f20) = true)
    (a21 : PySem.W.nsIn K mainGlobals "_law_cells" = some (some (.ref f21)))
    (l21 : K.lookup f21 = some ⟨oc21, od21, .func (PySem.W.fnOf "_law_cells" "_law_cells" (defArgs s__law_cells) (defBody s__law_cells) (defScope s__law_cells) .none kV21 dc21 pm21 an21 cd21 ct21), sl21⟩)
    (c21 : PySem.W.codeIn K cd21 "_law_cells" = true)
    (k21 : PySem.W.keepIn K (.ref f21) = true)
    (a22 : PySem.W.nsIn K mainGlobals "_law_next" = some (some (.ref f22)))
    (l22 : K.lookup f22 = some ⟨oc22, od22, .func (PySem.W.fnOf "_law_next" "_law_next" (defArgs s__law_next) (defBody s__law_next) (defScope s__law_next) .none kV22 dc22 pm22 an22 cd22 ct22), sl22⟩)
    (c22 : PySem.W.codeIn K cd22 "_law_next" = true)
    (k22 : PySem.W.keepIn K (.ref f22) = true)
    (a23 : PySem.W.nsIn K mainGlobals "_law_lie_like" = some (some (.ref f23)))
    (l23 : K.lookup f23 = some ⟨oc23, od23, .func (PySem.W.fnOf "_law_lie_like" "_law_lie_like" (defArgs s__law_lie_like) (defBody s__law_lie_like) (defScope s__law_lie_like) .none kV23 dc23 pm23 an23 cd23 ct23), sl23⟩)
    (c23 : PySem.W.codeIn K cd23 "_law_lie_like" = true)
    (k23 : PySem.W.keepIn K (.ref f23) = true)
    (a24 : PySem.W.nsIn K mainGlobals "_law_refused" = some (some (.ref f24)))
    (l24 : K.lookup f24 = some ⟨oc24, od24, .func (PySem.W.fnOf "_law_refused" "_law_refused" (defArgs s__law_refused) (defBody s__law_refused) (defScope s__law_refused) .none kV24 dc24 pm24 an24 cd24 ct24), sl24⟩)
    (c24 : PySem.W.codeIn K cd24 "_law_refused" = true)
    (k24 : PySem.W.keepIn K (.ref f24) = true)
    (a25 : PySem.W.nsIn K mainGlobals "_law_told" = some (some (.ref f25)))
    (l25 : K.lookup f25 = some ⟨oc25, od25, .func (PySem.W.fnOf "_law_told" "_law_told" (defArgs s__law_told) (defBody s__law_told) (defScope s__law_told) .none kV25 dc25 pm25 an25 cd25 ct25), sl25⟩)
    (c25 : PySem.W.codeIn K cd25 "_law_told" = true)
    (k25 : PySem.W.keepIn K (.ref f25) = true)
    (a26 : PySem.W.nsIn K mainGlobals "_law_drawn" = some (some (.ref f26)))
    (l26 : K.lookup f26 = some ⟨oc26, od26, .func (PySem.W.fnOf "_law_drawn" "_law_drawn" (defArgs s__law_drawn) (defBody s__law_drawn) (defScope s__law_drawn) .none kV26 dc26 pm26 an26 cd26 ct26), sl26⟩)
    (c26 : PySem.W.codeIn K cd26 "_law_drawn" = true)
    (k26 : PySem.W.keepIn K (.ref f26) = true)
    (a27 : PySem.W.nsIn K mainGlobals "law" = some (some (.ref f27)))
    (l27 : K.lookup f27 = some ⟨oc27, od27, .func (PySem.W.fnOf "law" "law" (defArgs s_law) (defBody s_law) (defScope s_law) .none kV27 dc27 pm27 an27 cd27 ct27), sl27⟩)
    (c27 : PySem.W.codeIn K cd27 "law" = true)
    (k27 : PySem.W.keepIn K (.ref f27) = true)
    (gCD : PySem.W.nsIn K mainGlobals "DieError" = some (some (.ref CD)))
    (gC0 : PySem.W.nsIn K mainGlobals "NoFloor" = some (some (.ref C0)))
    (gC1 : PySem.W.nsIn K mainGlobals "NoCell" = some (some (.ref C1)))
    (gC2 : PySem.W.nsIn K mainGlobals "NoLie" = some (some (.ref C2)))
    (gC3 : PySem.W.nsIn K mainGlobals "NoRoll" = some (some (.ref C3)))
    (gC4 : PySem.W.nsIn K mainGlobals "NoWay" = some (some (.ref C4)))
    (dB : PySem.W.subIn K (.ref CD) (.type "BaseException") = some true) (dH : PySem.W.hasDictIn K CD = true) (dT : PySem.W.typeIn K (.ref CD) = some (.type "type"))
    (sN : PySem.W.specialIn K (.builtin "object.__class__") "__get__" = some (some (.builtin "getset_descriptor.__get__"))) (sT : PySem.W.takesIn K (.builtin "object.__class__") = some true)
    (xc0 : PySem.W.excIn K C0 [.type "ValueError", .type "Exception", .type "BaseException", .type "object"] "ValueError.__new__" = true)
    (kp0 : PySem.W.keepIn K (.ref C0) = true)
    (sb0 : PySem.W.subIn K (.ref C0) (.type "BaseException") = some true)
    (ty0 : PySem.W.typeIn K (.ref C0) = some (.type "type"))
    (ga0 : PySem.W.findIn K (.ref C0) "__getattribute__" = some (some (.builtin "BaseException.__getattribute__")))
    (gt0 : PySem.W.findIn K (.ref C0) "__getattr__" = some none)
    (hd0 : PySem.W.hasDictIn K C0 = true)
    (hc0 : PySem.W.findIn K (.ref C0) "__class__" = some (some (.builtin "object.__class__")))
    (hm0 : PySem.W.mroIn K C0 (.type "object") = some true)
    (sD0 : PySem.W.subIn K (.ref C0) (.ref CD) = some true)
    (eV0 : PySem.W.kitOne K (.ref C0) (.type "ValueError") = some true)
    (kt00 : PySem.W.kitOne K (.ref C0) (.ref C0) = some true)
    (kt01 : PySem.W.kitOne K (.ref C0) (.ref C1) = some false)
    (kt02 : PySem.W.kitOne K (.ref C0) (.ref C2) = some false)
    (kt03 : PySem.W.kitOne K (.ref C0) (.ref C3) = some false)
    (kt04 : PySem.W.kitOne K (.ref C0) (.ref C4) = some false)
    (xc1 : PySem.W.excIn K C1 [.type "ValueError", .type "Exception", .type "BaseException", .type "object"] "ValueError.__new__" = true)
    (kp1 : PySem.W.keepIn K (.ref C1) = true)
    (sb1 : PySem.W.subIn K (.ref C1) (.type "BaseException") = some true)
    (ty1 : PySem.W.typeIn K (.ref C1) = some (.type "type"))
    (ga1 : PySem.W.findIn K (.ref C1) "__getattribute__" = some (some (.builtin "BaseException.__getattribute__")))
    (gt1 : PySem.W.findIn K (.ref C1) "__getattr__" = some none)
    (hd1 : PySem.W.hasDictIn K C1 = true)
    (hc1 : PySem.W.findIn K (.ref C1) "__class__" = some (some (.builtin "object.__class__")))
    (hm1 : PySem.W.mroIn K C1 (.type "object") = some true)
    (sD1 : PySem.W.subIn K (.ref C1) (.ref CD) = some true)
    (eV1 : PySem.W.kitOne K (.ref C1) (.type "ValueError") = some true)
    (kt10 : PySem.W.kitOne K (.ref C1) (.ref C0) = some false)
    (kt11 : PySem.W.kitOne K (.ref C1) (.ref C1) = some true)
    (kt12 : PySem.W.kitOne K (.ref C1) (.ref C2) = some false)
    (kt13 : PySem.W.kitOne K (.ref C1) (.ref C3) = some false)
    (kt14 : PySem.W.kitOne K (.ref C1) (.ref C4) = some false)
    (xc2 : PySem.W.excIn K C2 [.type "ValueError", .type "Exception", .type "BaseException", .type "object"] "ValueError.__new__" = true)
    (kp2 : PySem.W.keepIn K (.ref C2) = true)
    (sb2 : PySem.W.subIn K (.ref C2) (.type "BaseException") = some true)
    (ty2 : PySem.W.typeIn K (.ref C2) = some (.type "type"))
    (ga2 : PySem.W.findIn K (.ref C2) "__getattribute__" = some (some (.builtin "BaseException.__getattribute__")))
    (gt2 : PySem.W.findIn K (.ref C2) "__getattr__" = some none)
    (hd2 : PySem.W.hasDictIn K C2 = true)
    (hc2 : PySem.W.findIn K (.ref C2) "__class__" = some (some (.builtin "object.__class__")))
    (hm2 : PySem.W.mroIn K C2 (.type "object") = some true)
    (sD2 : PySem.W.subIn K (.ref C2) (.ref CD) = some true)
    (eV2 : PySem.W.kitOne K (.ref C2) (.type "ValueError") = some true)
    (kt20 : PySem.W.kitOne K (.ref C2) (.ref C0) = some false)
    (kt21 : PySem.W.kitOne K (.ref C2) (.ref C1) = some false)
    (kt22 : PySem.W.kitOne K (.ref C2) (.ref C2) = some true)
    (kt23 : PySem.W.kitOne K (.ref C2) (.ref C3) = some false)
    (kt24 : PySem.W.kitOne K (.ref C2) (.ref C4) = some false)
    (xc3 : PySem.W.excIn K C3 [.type "ValueError", .type "Exception", .type "BaseException", .type "object"] "ValueError.__new__" = true)
    (kp3 : PySem.W.keepIn K (.ref C3) = true)
    (sb3 : PySem.W.subIn K (.ref C3) (.type "BaseException") = some true)
    (ty3 : PySem.W.typeIn K (.ref C3) = some (.type "type"))
    (ga3 : PySem.W.findIn K (.ref C3) "__getattribute__" = some (some (.builtin "BaseException.__getattribute__")))
    (gt3 : PySem.W.findIn K (.ref C3) "__getattr__" = some none)
    (hd3 : PySem.W.hasDictIn K C3 = true)
    (hc3 : PySem.W.findIn K (.ref C3) "__class__" = some (some (.builtin "object.__class__")))
    (hm3 : PySem.W.mroIn K C3 (.type "object") = some true)
    (sD3 : PySem.W.subIn K (.ref C3) (.ref CD) = some true)
    (eV3 : PySem.W.kitOne K (.ref C3) (.type "ValueError") = some true)
    (kt30 : PySem.W.kitOne K (.ref C3) (.ref C0) = some false)
    (kt31 : PySem.W.kitOne K (.ref C3) (.ref C1) = some false)
    (kt32 : PySem.W.kitOne K (.ref C3) (.ref C2) = some false)
    (kt33 : PySem.W.kitOne K (.ref C3) (.ref C3) = some true)
    (kt34 : PySem.W.kitOne K (.ref C3) (.ref C4) = some false)
    (nPAIRS : PySem.W.nsIn K mainGlobals "PAIRS" = some (some (.ref xPAIRS)))
    (mPAIRS : K.lookup xPAIRS = some ⟨.type "tuple", xoPAIRS, .seq #[.int 0 tPAIRS0, .int 1 tPAIRS1, .int 2 tPAIRS2, .int 3 tPAIRS3, .int 3 tPAIRS4, .int 2 tPAIRS5, .int 1 tPAIRS6] xnPAIRS, xsPAIRS⟩)
    (nMOST : PySem.W.nsIn K mainGlobals "MOST" = some (some (.int 8 tMOST)))
    (nST0 : PySem.W.nsIn K mainGlobals "STEPS" = some (some (.ref xST)))
    (lST : K.lookup xST = some ⟨.type "dict", none, .dict #[⟨hn, .str "n" kn, .ref pn⟩, ⟨he, .str "e" ke, .ref pe⟩, ⟨hs, .str "s" ks, .ref ps⟩, ⟨hw, .str "w" kw, .ref pw⟩] nST, #[]⟩)
    (lPn : K.lookup pn = some ⟨.type "tuple", dn, .seq #[.int (-1) n0, .int 0 n1] mn, ln⟩)
    (lPe : K.lookup pe = some ⟨.type "tuple", de, .seq #[.int 0 e0, .int 1 e1] me, le⟩)
    (lPs : K.lookup ps = some ⟨.type "tuple", ds, .seq #[.int 1 s0, .int 0 s1] ms, ls⟩)
    (lPw : K.lookup pw = some ⟨.type "tuple", dw, .seq #[.int 0 w0, .int (-1) w1] mw, lw⟩)
    (qST : PySem.W.KeysLit w.params [⟨hn, .str "n" kn, .ref pn⟩, ⟨he, .str "e" ke, .ref pe⟩, ⟨hs, .str "s" ks, .ref ps⟩, ⟨hw, .str "w" kw, .ref pw⟩])
    (zST : (xST == sysModules) = false)
    (zlen : PySem.W.nsIn K mainGlobals "len" = some none)
    (zrange : PySem.W.nsIn K mainGlobals "range" = some none)
    (zsorted : PySem.W.nsIn K mainGlobals "sorted" = some none)
    (ztuple : PySem.W.nsIn K mainGlobals "tuple" = some none)
    (zall : PySem.W.nsIn K mainGlobals "all" = some none)
    (zisinstance : PySem.W.nsIn K mainGlobals "isinstance" = some none)
    (zint : PySem.W.nsIn K mainGlobals "int" = some none)
    (zbool : PySem.W.nsIn K mainGlobals "bool" = some none)
    (zlist : PySem.W.nsIn K mainGlobals "list" = some none)
    (zValueError : PySem.W.nsIn K mainGlobals "ValueError" = some none)
    : ∃ fd : FuncData, (∀ (s : Shared) (v : Value), BindsTo s fd ⟨[v], []⟩ [("script", v)]) ∧ ∀ base : Heap, K.In base → base.Ns mainGlobals mg → FnOk P w K mg base CX0 7 fa fd ["script"] (spG K rLaw) := by
  have e := hfa.symm.trans (PySem.W.mg_of X G a27)
  cases e
  refine ⟨PySem.W.fnOf "law" "law" (defArgs s_law) (defBody s_law) (defScope s_law) .none kV27 dc27 pm27 an27 cd27 ct27, fun s v => .of_eq rfl, fun base KB NB => ?_⟩
  let M : Md := ⟨P, w, K, mg, base⟩
  have h_len : M.mg "len" = none := PySem.W.mg_none_of X G zlen
  have h_range : M.mg "range" = none := PySem.W.mg_none_of X G zrange
  have h_sorted : M.mg "sorted" = none := PySem.W.mg_none_of X G zsorted
  have h_tuple : M.mg "tuple" = none := PySem.W.mg_none_of X G ztuple
  have h_all : M.mg "all" = none := PySem.W.mg_none_of X G zall
  have h_isinstance : M.mg "isinstance" = none := PySem.W.mg_none_of X G zisinstance
  have h_int : M.mg "int" = none := PySem.W.mg_none_of X G zint
  have h_bool : M.mg "bool" = none := PySem.W.mg_none_of X G zbool
  have h_list : M.mg "list" = none := PySem.W.mg_none_of X G zlist
  have h_ValueError : M.mg "ValueError" = none := PySem.W.mg_none_of X G zValueError
  have F_rolled_by : Fun M.K "rolled_by" "rolled_by" s_rolled_by f0 _ := fun_mk (st := s_rolled_by) l0 c0 k0
  have g_rolled_by : M.mg "rolled_by" = some (.ref f0) := PySem.W.mg_of X G a0
  have b_rolled_by := F_rolled_by.binds (ps := ["lie", "roll"]) fun _ _ _ _ _ _ us hl => match us, hl with | [_, _], _ => rfl
  have F_pairs_of : Fun M.K "pairs_of" "pairs_of" s_pairs_of f1 _ := fun_mk (st := s_pairs_of) l1 c1 k1
  have g_pairs_of : M.mg "pairs_of" = some (.ref f1) := PySem.W.mg_of X G a1
  have b_pairs_of := F_pairs_of.binds (ps := ["lie"]) fun _ _ _ _ _ _ us hl => match us, hl with | [_], _ => rfl
  have F_disorder : Fun M.K "disorder" "disorder" s_disorder f2 _ := fun_mk (st := s_disorder) l2 c2 k2
  have g_disorder : M.mg "disorder" = some (.ref f2) := PySem.W.mg_of X G a2
  have b_disorder := F_disorder.binds (ps := ["row"]) fun _ _ _ _ _ _ us hl => match us, hl with | [_], _ => rfl
  have F_is_lie : Fun M.K "is_lie" "is_lie" s_is_lie f3 _ := fun_mk (st := s_is_lie) l3 c3 k3
  have g_is_lie : M.mg "is_lie" = some (.ref f3) := PySem.W.mg_of X G a3
  have b_is_lie := F_is_lie.binds (ps := ["lie"]) fun _ _ _ _ _ _ us hl => match us, hl with | [_], _ => rfl
  have F_must_be_lie : Fun M.K "must_be_lie" "must_be_lie" s_must_be_lie f4 _ := fun_mk (st := s_must_be_lie) l4 c4 k4
  have g_must_be_lie : M.mg "must_be_lie" = some (.ref f4) := PySem.W.mg_of X G a4
  have b_must_be_lie := F_must_be_lie.binds (ps := ["lie"]) fun _ _ _ _ _ _ us hl => match us, hl with | [_], _ => rfl
  have F_must_be_floor : Fun M.K "must_be_floor" "must_be_floor" s_must_be_floor f5 _ := fun_mk (st := s_must_be_floor) l5 c5 k5
  have g_must_be_floor : M.mg "must_be_floor" = some (.ref f5) := PySem.W.mg_of X G a5
  have b_must_be_floor := F_must_be_floor.binds (ps := ["floor"]) fun _ _ _ _ _ _ us hl => match us, hl with | [_], _ => rfl
  have F_is_cell : Fun M.K "is_cell" "is_cell" s_is_cell f6 _ := fun_mk (st := s_is_cell) l6 c6 k6
  have g_is_cell : M.mg "is_cell" = some (.ref f6) := PySem.W.mg_of X G a6
  have b_is_cell := F_is_cell.binds (ps := ["floor", "place"]) fun _ _ _ _ _ _ us hl => match us, hl with | [_, _], _ => rfl
  have F_must_be_cell : Fun M.K "must_be_cell" "must_be_cell" s_must_be_cell f7 _ := fun_mk (st := s_must_be_cell) l7 c7 k7
  have g_must_be_cell : M.mg "must_be_cell" = some (.ref f7) := PySem.W.mg_of X G a7
  have b_must_be_cell := F_must_be_cell.binds (ps := ["floor", "place"]) fun _ _ _ _ _ _ us hl => match us, hl with | [_, _], _ => rfl
  have F_must_be_stand : Fun M.K "must_be_stand" "must_be_stand" s_must_be_stand f8 _ := fun_mk (st := s_must_be_stand) l8 c8 k8
  have g_must_be_stand : M.mg "must_be_stand" = some (.ref f8) := PySem.W.mg_of X G a8
  have b_must_be_stand := F_must_be_stand.binds (ps := ["floor", "stand"]) fun _ _ _ _ _ _ us hl => match us, hl with | [_, _], _ => rfl
  have F_next_stand : Fun M.K "next_stand" "next_stand" s_next_stand f9 _ := fun_mk (st := s_next_stand) l9 c9 k9
  have g_next_stand : M.mg "next_stand" = some (.ref f9) := PySem.W.mg_of X G a9
  have b_next_stand := F_next_stand.binds (ps := ["floor", "stand", "roll"]) fun _ _ _ _ _ _ us hl => match us, hl with | [_, _, _], _ => rfl
  have F_walked : Fun M.K "walked" "walked" s_walked f10 _ := fun_mk (st := s_walked) l10 c10 k10
  have g_walked : M.mg "walked" = some (.ref f10) := PySem.W.mg_of X G a10
  have b_walked := F_walked.binds (ps := ["floor", "stand", "rolls"]) fun _ _ _ _ _ _ us hl => match us, hl with | [_, _, _], _ => rfl
  have F__law_cell_at : Fun M.K "_law_cell_at" "_law_cell_at" s__law_cell_at f11 _ := fun_mk (st := s__law_cell_at) l11 c11 k11
  have g__law_cell_at : M.mg "_law_cell_at" = some (.ref f11) := PySem.W.mg_of X G a11
  have b__law_cell_at := F__law_cell_at.binds (ps := ["script", "k"]) fun _ _ _ _ _ _ us hl => match us, hl with | [_, _], _ => rfl
  have F__law_pick : Fun M.K "_law_pick" "_law_pick" s__law_pick f12 _ := fun_mk (st := s__law_pick) l12 c12 k12
  have g__law_pick : M.mg "_law_pick" = some (.ref f12) := PySem.W.mg_of X G a12
  have b__law_pick := F__law_pick.binds (ps := ["script", "k"]) fun _ _ _ _ _ _ us hl => match us, hl with | [_, _], _ => rfl
  have F__law_whole : Fun M.K "_law_whole" "_law_whole" s__law_whole f13 _ := fun_mk (st := s__law_whole) l13 c13 k13
  have g__law_whole : M.mg "_law_whole" = some (.ref f13) := PySem.W.mg_of X G a13
  have b__law_whole := F__law_whole.binds (ps := ["x"]) fun _ _ _ _ _ _ us hl => match us, hl with | [_], _ => rfl
  have F__law_mix : Fun M.K "_law_mix" "_law_mix" s__law_mix f14 _ := fun_mk (st := s__law_mix) l14 c14 k14
  have g__law_mix : M.mg "_law_mix" = some (.ref f14) := PySem.W.mg_of X G a14
  have b__law_mix := F__law_mix.binds (ps := ["cell", "k"]) fun _ _ _ _ _ _ us hl => match us, hl with | [_, _], _ => rfl
  have F__law_pairs : Fun M.K "_law_pairs" "_law_pairs" s__law_pairs f15 _ := fun_mk (st := s__law_pairs) l15 c15 k15
  have g__law_pairs : M.mg "_law_pairs" = some (.ref f15) := PySem.W.mg_of X G a15
  have b__law_pairs := F__law_pairs.binds (ps := ["lie"]) fun _ _ _ _ _ _ us hl => match us, hl with | [_], _ => rfl
  have F__law_odd : Fun M.K "_law_odd" "_law_odd" s__law_odd f16 _ := fun_mk (st := s__law_odd) l16 c16 k16
  have g__law_odd : M.mg "_law_odd" = some (.ref f16) := PySem.W.mg_of X G a16
  have b__law_odd := F__law_odd.binds (ps := ["row"]) fun _ _ _ _ _ _ us hl => match us, hl with | [_], _ => rfl
  have F__law_is_lie : Fun M.K "_law_is_lie" "_law_is_lie" s__law_is_lie f17 _ := fun_mk (st := s__law_is_lie) l17 c17 k17
  have g__law_is_lie : M.mg "_law_is_lie" = some (.ref f17) := PySem.W.mg_of X G a17
  have b__law_is_lie := F__law_is_lie.binds (ps := ["lie"]) fun _ _ _ _ _ _ us hl => match us, hl with | [_], _ => rfl
  have F__law_lies : Fun M.K "_law_lies" "_law_lies" s__law_lies f18 _ := fun_mk (st := s__law_lies) l18 c18 k18
  have g__law_lies : M.mg "_law_lies" = some (.ref f18) := PySem.W.mg_of X G a18
  have b__law_lies := F__law_lies.binds (ps := []) fun _ _ _ _ _ _ us hl => match us, hl with | [], _ => rfl
  have F__law_roll : Fun M.K "_law_roll" "_law_roll" s__law_roll f19 _ := fun_mk (st := s__law_roll) l19 c19 k19
  have g__law_roll : M.mg "_law_roll" = some (.ref f19) := PySem.W.mg_of X G a19
  have b__law_roll := F__law_roll.binds (ps := ["lie", "roll"]) fun _ _ _ _ _ _ us hl => match us, hl with | [_, _], _ => rfl
  have F__law_floor : Fun M.K "_law_floor" "_law_floor" s__law_floor f20 _ := fun_mk (st := s__law_floor) l20 c20 k20
  have g__law_floor : M.mg "_law_floor" = some (.ref f20) := PySem.W.mg_of X G a20
  have b__law_floor := F__law_floor.binds (ps := ["script", "start", "most"]) fun _ _ _ _ _ _ us hl => match us, hl with | [_, _, _], _ => rfl
  have F__law_cells : Fun M.K "_law_cells" "_law_cells" s__law_cells f21 _ := fun_mk (st := s__law_cells) l21 c21 k21
  have g__law_cells : M.mg "_law_cells" = some (.ref f21) := PySem.W.mg_of X G a21
  have b__law_cells := F__law_cells.binds (ps := ["floor"]) fun _ _ _ _ _ _ us hl => match us, hl with | [_], _ => rfl
  have F__law_next : Fun M.K "_law_next" "_law_next" s__law_next f22 _ := fun_mk (st := s__law_next) l22 c22 k22
  have g__law_next : M.mg "_law_next" = some (.ref f22) := PySem.W.mg_of X G a22
  have b__law_next := F__law_next.binds (ps := ["floor", "stand", "roll"]) fun _ _ _ _ _ _ us hl => match us, hl with | [_, _, _], _ => rfl
  have F__law_lie_like : Fun M.K "_law_lie_like" "_law_lie_like" s__law_lie_like f23 _ := fun_mk (st := s__law_lie_like) l23 c23 k23
  have g__law_lie_like : M.mg "_law_lie_like" = some (.ref f23) := PySem.W.mg_of X G a23
  have b__law_lie_like := F__law_lie_like.binds (ps := ["found", "due"]) fun _ _ _ _ _ _ us hl => match us, hl with | [_, _], _ => rfl
  have F__law_refused : Fun M.K "_law_refused" "_law_refused" s__law_refused f24 _ := fun_mk (st := s__law_refused) l24 c24 k24
  have g__law_refused : M.mg "_law_refused" = some (.ref f24) := PySem.W.mg_of X G a24
  have b__law_refused := F__law_refused.binds (ps := ["marks", "which"]) fun _ _ _ _ _ _ us hl => match us, hl with | [_, _], _ => rfl
  have F__law_told : Fun M.K "_law_told" "_law_told" s__law_told f25 _ := fun_mk (st := s__law_told) l25 c25 k25
  have g__law_told : M.mg "_law_told" = some (.ref f25) := PySem.W.mg_of X G a25
  have b__law_told := F__law_told.binds (ps := ["floor", "stand", "rolls"]) fun _ _ _ _ _ _ us hl => match us, hl with | [_, _, _], _ => rfl
  have F__law_drawn : Fun M.K "_law_drawn" "_law_drawn" s__law_drawn f26 _ := fun_mk (st := s__law_drawn) l26 c26 k26
  have g__law_drawn : M.mg "_law_drawn" = some (.ref f26) := PySem.W.mg_of X G a26
  have b__law_drawn := F__law_drawn.binds (ps := ["script", "cells"]) fun _ _ _ _ _ _ us hl => match us, hl with | [_, _], _ => rfl
  have F_law : Fun M.K "law" "law" s_law fa _ := fun_mk (st := s_law) l27 c27 k27
  have er : Errs M CD C0 C1 C2 C3 C4 := ⟨PySem.W.mg_of X G gCD, PySem.W.mg_of X G gC0, PySem.W.mg_of X G gC1, PySem.W.mg_of X G gC2, PySem.W.mg_of X G gC3, PySem.W.mg_of X G gC4, h_ValueError, h_isinstance⟩
  have ec_NoFloor : Ec M "NoFloor" C0 := ⟨PySem.W.mg_of X G gC0, xc0, kp0, sb0, ty0⟩
  have ee_NoFloor : Er M CD C0 C1 C2 C3 C4 C0 0 := ⟨⟨ga0, gt0, sb0, hd0, hc0, sN, sT, hm0⟩, PySem.W.exm_ref dB dH dT sD0, kt00, kt01, kt02, kt03, kt04, eV0⟩
  have ec_NoCell : Ec M "NoCell" C1 := ⟨PySem.W.mg_of X G gC1, xc1, kp1, sb1, ty1⟩
  have ee_NoCell : Er M CD C0 C1 C2 C3 C4 C1 1 := ⟨⟨ga1, gt1, sb1, hd1, hc1, sN, sT, hm1⟩, PySem.W.exm_ref dB dH dT sD1, kt10, kt11, kt12, kt13, kt14, eV1⟩
  have ec_NoLie : Ec M "NoLie" C2 := ⟨PySem.W.mg_of X G gC2, xc2, kp2, sb2, ty2⟩
  have ee_NoLie : Er M CD C0 C1 C2 C3 C4 C2 2 := ⟨⟨ga2, gt2, sb2, hd2, hc2, sN, sT, hm2⟩, PySem.W.exm_ref dB dH dT sD2, kt20, kt21, kt22, kt23, kt24, eV2⟩
  have ec_NoRoll : Ec M "NoRoll" C3 := ⟨PySem.W.mg_of X G gC3, xc3, kp3, sb3, ty3⟩
  have ee_NoRoll : Er M CD C0 C1 C2 C3 C4 C3 3 := ⟨⟨ga3, gt3, sb3, hd3, hc3, sN, sT, hm3⟩, PySem.W.exm_ref dB dH dT sD3, kt30, kt31, kt32, kt33, kt34, eV3⟩
  have h_PAIRS : Gc M "PAIRS" (.tuple ([0, 1, 2, 3, 3, 2, 1].map PyData.int)) := gc_ints (h := h) [0, 1, 2, 3, 3, 2, 1] (PySem.W.mg_of X G nPAIRS) mPAIRS (.cons ⟨tPAIRS0, rfl⟩ (.cons ⟨tPAIRS1, rfl⟩ (.cons ⟨tPAIRS2, rfl⟩ (.cons ⟨tPAIRS3, rfl⟩ (.cons ⟨tPAIRS4, rfl⟩ (.cons ⟨tPAIRS5, rfl⟩ (.cons ⟨tPAIRS6, rfl⟩ (.nil)))))))) (Nat.le_trans (Nat.le_of_ble_eq_true rfl : _ ≤ 100) (by decide))
  have h_MOST : Gc M "MOST" (.int 8) := ⟨.int 8, _, PySem.W.mg_of X G nMOST, ⟨_, rfl⟩, fun F => .int _⟩
  have steps : Steps M := steps_mk (PySem.W.mg_of X G nST0) lST qST zST lPn lPe lPs lPw
  have cP : Fc M CX0 "pairs_of" 1 (spG M.K rPairs) := fc_pairs_of F_pairs_of g_pairs_of b_pairs_of h_PAIRS
  have cD : Fc M CX0 "disorder" 1 (spG M.K rDis) := fc_disorder F_disorder g_disorder b_disorder h_len h_range
  have cI : Fc M CX0 "is_lie" 2 (spG M.K rIsLie) := fc_is_lie F_is_lie g_is_lie b_is_lie h_len h_sorted cP cD
  have cMu : Fc M (L2.CX M.P M.w) "must_be_lie" 3 (spG M.K (rMust C2)) := fc_must_be_lie F_must_be_lie g_must_be_lie b_must_be_lie ec_NoLie cI
  have cBy : Fc M CX0 "rolled_by" 1 (spG M.K rRoll) := fc_rolled_by F_rolled_by g_rolled_by b_rolled_by
  have cMf : Fc M (L2.CX M.P M.w) "must_be_floor" 1 (spG M.K (rMustF C0)) := fc_must_be_floor F_must_be_floor g_must_be_floor b_must_be_floor h_len h_MOST ec_NoFloor
  have cIc : Fc M CX0 "is_cell" 1 (spG M.K rIsCell) := fc_is_cell F_is_cell g_is_cell b_is_cell h_len
  have cMc : Fc M (L2.CX M.P M.w) "must_be_cell" 2 (spG M.K (rMustC C1)) := fc_must_be_cell F_must_be_cell g_must_be_cell b_must_be_cell ec_NoCell cIc
  have cMs : Fc M (L2.CX M.P M.w) "must_be_stand" 4 (spG M.K (rMustS C1 C2)) := fc_must_be_stand F_must_be_stand g_must_be_stand b_must_be_stand cMc cMu
  have cNs : Fc M CX0 "next_stand" 2 (spG M.K rNext) := fc_next_stand F_next_stand g_next_stand b_next_stand steps cIc cBy
  have cWa : Fc M (L2.CX M.P M.w) "walked" 5 (spG M.K (rWalked C0 C1 C2 C3)) := fc_walked F_walked g_walked b_walked steps ec_NoRoll cMf cMs cNs
  have cP2 : Fc M CX0 "_law_pairs" 1 (spG M.K rPairs) := fc_law_pairs F__law_pairs g__law_pairs b__law_pairs
  have cO : Fc M CX0 "_law_odd" 1 (spG M.K rDis) := fc_law_odd F__law_odd g__law_odd b__law_odd h_len h_range
  have cJ : Fc M CX0 "_law_is_lie" 2 (spG M.K rIsLie) := fc_law_is_lie F__law_is_lie g__law_is_lie b__law_is_lie h_len h_sorted cP2 cO
  have cQ : Fc M CX0 "_law_lies" 3 (spG M.K rLies) := fc_law_lies F__law_lies g__law_lies b__law_lies h_range cJ
  have cC : Fc M CX0 "_law_cell_at" 1 (spG M.K rCell) := fc_cell_at F__law_cell_at g__law_cell_at b__law_cell_at h_len
  have cPk : Fc M CX0 "_law_pick" 2 (spG M.K rPick) := fc_pick F__law_pick g__law_pick b__law_pick h_len cC
  have cW : Fc M CX0 "_law_whole" 1 (spG M.K rWhole) := fc_whole F__law_whole g__law_whole b__law_whole h_isinstance h_int h_bool
  have cM : Fc M CX0 "_law_mix" 1 (spG M.K rMix) := fc_mix F__law_mix g__law_mix b__law_mix
  have cR : Fc M CX0 "_law_roll" 1 (spG M.K rRoll) := fc_law_roll F__law_roll g__law_roll b__law_roll
  have cFl : Fc M CX0 "_law_floor" 2 (spG M.K rFloor) := fc_law_floor F__law_floor g__law_floor b__law_floor h_range h_int cC cM
  have cCe : Fc M CX0 "_law_cells" 1 (spG M.K rCells) := fc_law_cells F__law_cells g__law_cells b__law_cells h_range h_len
  have cN : Fc M CX0 "_law_next" 2 (spG M.K rNext) := fc_law_next F__law_next g__law_next b__law_next h_len h_int cR
  have cL : Fc M CX0 "_law_lie_like" 2 (spG M.K rLike) := fc_like F__law_lie_like g__law_lie_like b__law_lie_like h_isinstance h_tuple h_all cW
  have cF : Fc M CX0 "_law_refused" 1 (spG M.K rRefused) := fc_refused F__law_refused g__law_refused b__law_refused h_range
  have cDr : Fc M CX0 "_law_drawn" 4 (spG M.K rDrawn) := fc_drawn F__law_drawn g__law_drawn b__law_drawn h_len cC cQ
  have cT : Fc M CX0 "_law_told" 6 (spG M.K rTold05) := fc_told F__law_told g__law_told b__law_told er ee_NoCell ee_NoLie ee_NoRoll cWa
  exact ok_law F_law h_len h_range h_list h_tuple h_isinstance cC cPk cM cF cFl cCe cDr cJ cN cL cT
theorem walk {l : PySem.W.OpenLaw} {q : Program} {loose : List Str} {XP : (Str → Option Value) → Heap → Prop} {YP : World → Heap → Prop} {d : DefRec} {K : Params → PySem.W.Frag} (hn : l.most = some 63) (hdf : d.params.defaults = [])
    (hY : ∀ (w : World) (h : Heap), YP w h → (K w.params).In h)
    (F : ∀ (w : World) (mg : Str → Option Value) (fa : Addr) (h : Heap), (K w.params).In h → h.Ns mainGlobals mg → mg d.name = some (.ref fa) →
      ∃ fd : FuncData, (∀ (s : Shared) (u : Value), BindsTo s fd ⟨[u], []⟩ [("script", u)]) ∧ ∀ base : Heap, (K w.params).In base → base.Ns mainGlobals mg → FnOk l.prog w (K w.params) mg base CX0 7 fa fd ["script"] (spG (K w.params) rLaw)) :
    PySem.W.WalkO q loose XP YP l.row.toRowW d [] (fun f vs => PySem.call f vs) :=
  L2.walk_of (n := 63) (k := 7) (x := "script") (CX := fun _ => CX0) (sp := fun w => spG (K w.params) rLaw) hn (by decide) hdf ⟨rfl, by decide, by decide⟩ hY F
    (fun w H a ns hl _ hS => ⟨H, [scr ns], .val (.bool true), Same.refl H, .cons (.scr hS) .nil, ⟨ns, hl, rfl, rfl⟩, fun v F' H' g r => by cases r; rfl⟩) fun _ _ _ _ _ z => z
end Roll
open PySem PySem.W PyProof.Rows
set_option maxRecDepth 100000 in
set_option maxHeartbeats 0 in
theorem PySem.Challenge.cw_rolldie_k05_walked_holds : PySem.Challenge.rw_rolldie_k05_walked.Holds := by
  w_on; o_law; k_head; (case hw => w_witness2)
  k_fill
  refine Roll.walk (l := PySem.Challenge.rw_rolldie_k05_walked) rfl rfl (fun w h Y => PySem.W.kIn_of Y) ?F
  case F =>
    intro w mg fa h KX G hmg
    refine' Roll.all_mk KX G hmg ?a0 ?l0 ?c0 ?k0 ?a1 ?l1 ?c1 ?k1 ?a2 ?l2 ?c2 ?k2 ?a3 ?l3 ?c3 ?k3 ?a4 ?l4 ?c4 ?k4 ?a5 ?l5 ?c5 ?k5 ?a6 ?l6 ?c6 ?k6 ?a7 ?l7 ?c7 ?k7 ?a8 ?l8 ?c8 ?k8 ?a9 ?l9 ?c9 ?k9 ?a10 ?l10 ?c10 ?k10 ?a11 ?l11 ?c11 ?k11 ?a12 ?l12 ?c12 ?k12 ?a13 ?l13 ?c13 ?k13 ?a14 ?l14 ?c14 ?k14 ?a15 ?l15 ?c15 ?k15 ?a16 ?l16 ?c16 ?k16 ?a17 ?l17 ?c17 ?k17 ?a18 ?l18 ?c18 ?k18 ?a19 ?l19 ?c19 ?k19 ?a20 ?l20 ?c20 ?k20 ?a21 ?l21 ?c21 ?k21 ?a22 ?l22 ?c22 ?k22 ?a23 ?l23 ?c23 ?k23 ?a24 ?l24 ?c24 ?k24 ?a25 ?l25 ?c25 ?k25 ?a26 ?l26 ?c26 ?k26 ?a27 ?l27 ?c27 ?k27 ?gCD ?gC0 ?gC1 ?gC2 ?gC3 ?gC4 ?dB ?dH ?dT ?sN ?sT ?xc0 ?kp0 ?sb0 ?ty0 ?ga0 ?gt0 ?hd0 ?hc0 ?hm0 ?sD0 ?eV0 ?kt00 ?kt01 ?kt02 ?kt03 ?kt04 ?xc1 ?kp1 ?sb1 ?ty1 ?ga1 ?gt1 ?hd1 ?hc1 ?hm1 ?sD1 ?eV1 ?kt10 ?kt11 ?kt12 ?kt13 ?kt14 ?xc2 ?kp2 ?sb2 ?ty2 ?ga2 ?gt2 ?hd2 ?hc2 ?hm2 ?sD2 ?eV2 ?kt20 ?kt21 ?kt22 ?kt23 ?kt24 ?xc3 ?kp3 ?sb3 ?ty3 ?ga3 ?gt3 ?hd3 ?hc3 ?hm3 ?sD3 ?eV3 ?kt30 ?kt31 ?kt32 ?kt33 ?kt34 ?nPAIRS ?mPAIRS ?nMOST ?nST0 ?lST ?lPn ?lPe ?lPs ?lPw ?qST ?zST ?zlen ?zrange ?zsorted ?ztuple ?zall ?zisinstance ?zint ?zbool ?zlist ?zValueError
    (case a0 => first | k_is | rfl)
    (case l0 => first | k_is | rfl)
    (case c0 => first | k_is | rfl)
    (case k0 => first | k_is | rfl)
    (case a1 => first | k_is | rfl)
    (case l1 => first | k_is | rfl)
    (case c1 => first | k_is | rfl)
    (case k1 => first | k_is | rfl)
    (case a2 => first | k_is | rfl)
    (case l2 => first | k_is | rfl)
    (case c2 => first | k_is | rfl)
    (case k2 => first | k_is | rfl)
    (case a3 => first | k_is | rfl)
    (case l3 => first | k_is | rfl)
    (case c3 => first | k_is | rfl)
    (case k3 => first | k_is | rfl)
    (case a4 => first | k_is | rfl)
    (case l4 => first | k_is | rfl)
    (case c4 => first | k_is | rfl)
    (case k4 => first | k_is | rfl)
    (case a5 => first | k_is | rfl)
    (case l5 => first | k_is | rfl)
    (case c5 => first | k_is | rfl)
    (case k5 => first | k_is | rfl)
    (case a6 => first | k_is | rfl)
    (case l6 => first | k_is | rfl)
    (case c6 => first | k_is | rfl)
    (case k6 => first | k_is | rfl)
    (case a7 => first | k_is | rfl)
    (case l7 => first | k_is | rfl)
    (case c7 => first | k_is | rfl)
    (case k7 => first | k_is | rfl)
    (case a8 => first | k_is | rfl)
    (case l8 => first | k_is | rfl)
    (case c8 => first | k_is | rfl)
    (case k8 => first | k_is | rfl)
    (case a9 => first | k_is | rfl)
    (case l9 => first | k_is | rfl)
    (case c9 => first | k_is | rfl)
    (case k9 => first | k_is | rfl)
    (case a10 => first | k_is | rfl)
    (case l10 => first | k_is | rfl)
    (case c10 => first | k_is | rfl)
    (case k10 => first | k_is | rfl)
    (case a11 => first | k_is | rfl)
    (case l11 => first | k_is | rfl)
    (case c11 => first | k_is | rfl)
    (case k11 => first | k_is | rfl)
    (case a12 => first | k_is | rfl)
    (case l12 => first | k_is | rfl)
    (case c12 => first | k_is | rfl)
    (case k12 => first | k_is | rfl)
    (case a13 => first | k_is | rfl)
    (case l13 => first | k_is | rfl)
    (case c13 => first | k_is | rfl)
    (case k13 => first | k_is | rfl)
    (case a14 => first | k_is | rfl)
    (case l14 => first | k_is | rfl)
    (case c14 => first | k_is | rfl)
    (case k14 => first | k_is | rfl)
    (case a15 => first | k_is | rfl)
    (case l15 => first | k_is | rfl)
    (case c15 => first | k_is | rfl)
    (case k15 => first | k_is | rfl)
    (case a16 => first | k_is | rfl)
    (case l16 => first | k_is | rfl)
    (case c16 => first | k_is | rfl)
    (case k16 => first | k_is | rfl)
    (case a17 => first | k_is | rfl)
    (case l17 => first | k_is | rfl)
    (case c17 => first | k_is | rfl)
    (case k17 => first | k_is | rfl)
    (case a18 => first | k_is | rfl)
    (case l18 => first | k_is | rfl)
    (case c18 => first | k_is | rfl)
    (case k18 => first | k_is | rfl)
    (case a19 => first | k_is | rfl)
    (case l19 => first | k_is | rfl)
    (case c19 => first | k_is | rfl)
    (case k19 => first | k_is | rfl)
    (case a20 => first | k_is | rfl)
    (case l20 => first | k_is | rfl)
    (case c20 => first | k_is | rfl)
    (case k20 => first | k_is | rfl)
    (case a21 => first | k_is | rfl)
    (case l21 => first | k_is | rfl)
    (case c21 => first | k_is | rfl)
    (case k21 => first | k_is | rfl)
    (case a22 => first | k_is | rfl)
    (case l22 => first | k_is | rfl)
    (case c22 => first | k_is | rfl)
    (case k22 => first | k_is | rfl)
    (case a23 => first | k_is | rfl)
    (case l23 => first | k_is | rfl)
    (case c23 => first | k_is | rfl)
    (case k23 => first | k_is | rfl)
    (case a24 => first | k_is | rfl)
    (case l24 => first | k_is | rfl)
    (case c24 => first | k_is | rfl)
    (case k24 => first | k_is | rfl)
    (case a25 => first | k_is | rfl)
    (case l25 => first | k_is | rfl)
    (case c25 => first | k_is | rfl)
    (case k25 => first | k_is | rfl)
    (case a26 => first | k_is | rfl)
    (case l26 => first | k_is | rfl)
    (case c26 => first | k_is | rfl)
    (case k26 => first | k_is | rfl)
    (case a27 => first | k_is | rfl)
    (case l27 => first | k_is | rfl)
    (case c27 => first | k_is | rfl)
    (case k27 => first | k_is | rfl)
    (case gCD => first | k_is | rfl)
    (case gC0 => first | k_is | rfl)
    (case gC1 => first | k_is | rfl)
    (case gC2 => first | k_is | rfl)
    (case gC3 => first | k_is | rfl)
    (case gC4 => first | k_is | rfl)
    (case dB => first | k_is | rfl)
    (case dH => first | k_is | rfl)
    (case dT => first | k_is | rfl)
    (case sN => first | k_is | rfl)
    (case sT => first | k_is | rfl)
    (case xc0 => first | k_exc | k_is | rfl)
    (case kp0 => first | k_is | rfl)
    (case sb0 => first | k_is | rfl)
    (case ty0 => first | k_is | rfl)
    (case ga0 => first | k_is | rfl)
    (case gt0 => first | k_is | rfl)
    (case hd0 => first | k_is | rfl)
    (case hc0 => first | k_is | rfl)
    (case hm0 => first | k_is | rfl)
    (case sD0 => first | k_is | rfl)
    (case eV0 => first | k_is | rfl)
    (case kt00 => first | k_is | rfl)
    (case kt01 => first | k_is | rfl)
    (case kt02 => first | k_is | rfl)
    (case kt03 => first | k_is | rfl)
    (case kt04 => first | k_is | rfl)
    (case xc1 => first | k_exc | k_is | rfl)
    (case kp1 => first | k_is | rfl)
    (case sb1 => first | k_is | rfl)
    (case ty1 => first | k_is | rfl)
    (case ga1 => first | k_is | rfl)
    (case gt1 => first | k_is | rfl)
    (case hd1 => first | k_is | rfl)
    (case hc1 => first | k_is | rfl)
    (case hm1 => first | k_is | rfl)
    (case sD1 => first | k_is | rfl)
    (case eV1 => first | k_is | rfl)
    (case kt10 => first | k_is | rfl)
    (case kt11 => first | k_is | rfl)
    (case kt12 => first | k_is | rfl)
    (case kt13 => first | k_is | rfl)
    (case kt14 => first | k_is | rfl)
    (case xc2 => first | k_exc | k_is | rfl)
    (case kp2 => first | k_is | rfl)
    (case sb2 => first | k_is | rfl)
    (case ty2 => first | k_is | rfl)
    (case ga2 => first | k_is | rfl)
    (case gt2 => first | k_is | rfl)
    (case hd2 => first | k_is | rfl)
    (case hc2 => first | k_is | rfl)
    (case hm2 => first | k_is | rfl)
    (case sD2 => first | k_is | rfl)
    (case eV2 => first | k_is | rfl)
    (case kt20 => first | k_is | rfl)
    (case kt21 => first | k_is | rfl)
    (case kt22 => first | k_is | rfl)
    (case kt23 => first | k_is | rfl)
    (case kt24 => first | k_is | rfl)
    (case xc3 => first | k_exc | k_is | rfl)
    (case kp3 => first | k_is | rfl)
    (case sb3 => first | k_is | rfl)
    (case ty3 => first | k_is | rfl)
    (case ga3 => first | k_is | rfl)
    (case gt3 => first | k_is | rfl)
    (case hd3 => first | k_is | rfl)
    (case hc3 => first | k_is | rfl)
    (case hm3 => first | k_is | rfl)
    (case sD3 => first | k_is | rfl)
    (case eV3 => first | k_is | rfl)
    (case kt30 => first | k_is | rfl)
    (case kt31 => first | k_is | rfl)
    (case kt32 => first | k_is | rfl)
    (case kt33 => first | k_is | rfl)
    (case kt34 => first | k_is | rfl)
    (case nPAIRS => first | k_is | rfl)
    (case mPAIRS => first | k_is | rfl)
    (case nMOST => first | k_is | rfl)
    (case nST0 => first | k_is | rfl)
    (case lST => first | k_is | rfl)
    (case lPn => first | k_is | rfl)
    (case lPe => first | k_is | rfl)
    (case lPs => first | k_is | rfl)
    (case lPw => first | k_is | rfl)
    (case qST => k_keys)
    (case zST => first | k_is | rfl)
    (case zlen => first | k_is | rfl)
    (case zrange => first | k_is | rfl)
    (case zsorted => first | k_is | rfl)
    (case ztuple => first | k_is | rfl)
    (case zall => first | k_is | rfl)
    (case zisinstance => first | k_is | rfl)
    (case zint => first | k_is | rfl)
    (case zbool => first | k_is | rfl)
    (case zlist => first | k_is | rfl)
    (case zValueError => first | k_is | rfl)

