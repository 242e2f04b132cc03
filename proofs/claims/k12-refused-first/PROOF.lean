import PyProof.Rows.All
import Wide.All
import OpenK.AllK
import Wide.FinOn
import HandS.ForMost
import HandS.ForExc
import HandS.ExcIs
import KE.KDictKeyed
import KE.KDictDisplayH
import HandS.IsInst
import HandS.SortInts
import HandS.TupAny
import HandS.Deep
import KE.SortData
import HandS.More
import HandS.Conv
import HandS.Zip
import HandS.TupSets
import KE.KTupSum
import HandS.DictEq
import PySem.Challenge.RW_rolldie_k12_refused_first
set_option Elab.async false
set_option linter.all false
set_option maxRecDepth 100000
set_option maxHeartbeats 4000000
/-! Lay: judgements of data over the hand layer. F: what stands for good; H: all that stands; F lies within H. -/
namespace Lay
open PySem PySem.Spec PyProof.Rows L2

/-! ### data that stands in a heap -/
mutual
/-- v is the datum d in F. A dict that bears the sign of a script stands for the script -/
inductive Dn (K : PySem.W.Frag) (F : Hp) : V → PyData → Prop
  | non : Dn K F .non .none
  | bl (b : Bool) : Dn K F (.bl b) (.bool b)
  | int (i : Int) : Dn K F (.int i) (.int i)
  | str (x : Str) : Dn K F (.str x) (.str x)
  | lst {a : Addr} {xs : List V} {ds : List PyData} : F a = some (.lst xs) → Dns K F xs ds → Dn K F (.ref a) (.list ds)
  | tup {a : Addr} {xs : List V} {ds : List PyData} : SqT K F a xs → Dns K F xs ds → Dn K F (.ref a) (.tuple ds)
  | scr {a : Addr} {ns : List Int} : SqL K F a (ns.map V.int) → Dn K F (.ref a) (.dict [(.none, .list (ns.map PyData.int))])
inductive Dns (K : PySem.W.Frag) (F : Hp) : List V → List PyData → Prop
  | nil : Dns K F [] []
  | cons {v : V} {vs : List V} {d : PyData} {ds : List PyData} : Dn K F v d → Dns K F vs ds → Dns K F (v :: vs) (d :: ds)
end
theorem rd_mono {F G : Hp} {a : Addr} {u : HO} (e : Same F G) (h : Rd F a u) : Rd G a u := by
  rcases h with h | ⟨o, h⟩
  · exact .inl (e _ _ h)
  · exact .inr ⟨o, e _ _ h⟩
theorem sqt_mono {K : PySem.W.Frag} {F G : Hp} {a : Addr} {xs : List V} (e : Same F G) (h : SqT K F a xs) : SqT K G a xs := by
  rcases h with h | h
  · exact .inl (rd_mono e h)
  · exact .inr h
theorem sql_mono {K : PySem.W.Frag} {F G : Hp} {a : Addr} {xs : List V} (e : Same F G) (h : SqL K F a xs) : SqL K G a xs := by
  rcases h with h | h
  · exact .inl (rd_mono e h)
  · exact .inr h
mutual
theorem Dn.mono {K : PySem.W.Frag} {F G : Hp} (e : Same F G) : ∀ {v : V} {d : PyData}, Dn K F v d → Dn K G v d
  | _, _, .non => .non
  | _, _, .bl b => .bl b
  | _, _, .int i => .int i
  | _, _, .str x => .str x
  | _, _, .lst h r => .lst (e _ _ h) (Dns.mono e r)
  | _, _, .tup h r => .tup (sqt_mono e h) (Dns.mono e r)
  | _, _, .scr h => .scr (sql_mono e h)
theorem Dns.mono {K : PySem.W.Frag} {F G : Hp} (e : Same F G) : ∀ {vs : List V} {ds : List PyData}, Dns K F vs ds → Dns K G vs ds
  | _, _, .nil => .nil
  | _, _, .cons h r => .cons (Dn.mono e h) (Dns.mono e r)
end
mutual
theorem Dn.dp {K : PySem.W.Frag} {F : Hp} : ∀ {v : V} {d : PyData}, Dn K F v d → d.canLay0 = true → Dp K F v d
  | _, _, .non, _ => .non
  | _, _, .bl b, _ => .bl b
  | _, _, .int i, _ => .int i
  | _, _, .str x, _ => .str x
  | _, _, .lst h r, c => .lst (SqL.of h) (Dns.dp r (by simpa [PyData.canLay0] using c))
  | _, _, .tup h r, c => .tup h (Dns.dp r (by simpa [PyData.canLay0] using c))
  | _, _, .scr _, c => by simp [PyData.canLay0] at c
theorem Dns.dp {K : PySem.W.Frag} {F : Hp} : ∀ {vs : List V} {ds : List PyData}, Dns K F vs ds → PyData.canLayAll0 ds = true → DpAll K F vs ds
  | _, _, .nil, _ => .nil
  | _, _, .cons h r, c => by
    simp only [PyData.canLayAll0, Bool.and_eq_true] at c
    exact .cons (Dn.dp h c.1) (Dns.dp r c.2)
end
theorem Dns.len {K : PySem.W.Frag} {F : Hp} : ∀ {vs : List V} {ds : List PyData}, Dns K F vs ds → vs.length = ds.length
  | _, _, .nil => rfl
  | _, _, .cons _ r => congrArg (· + 1) (Dns.len r)
theorem Dns.get {K : PySem.W.Frag} {F : Hp} : ∀ {vs : List V} {ds : List PyData} {i : Nat} {d : PyData}, Dns K F vs ds → ds[i]? = some d → ∃ v, vs[i]? = some v ∧ Dn K F v d
  | _, _, _, _, .nil, h => by simp at h
  | _, _, 0, d, .cons (v := v) h r, e => by
    simp at e
    subst e
    exact ⟨v, rfl, h⟩
  | _, _, i + 1, d, .cons h r, e => by
    obtain ⟨v, e1, e2⟩ := Dns.get (i := i) r (by simpa using e)
    exact ⟨v, by simpa using e1, e2⟩
theorem Dns.getV {K : PySem.W.Frag} {F : Hp} : ∀ {vs : List V} {ds : List PyData} {i : Nat} {v : V}, Dns K F vs ds → vs[i]? = some v → ∃ d, ds[i]? = some d ∧ Dn K F v d
  | _, _, _, _, .nil, h => by simp at h
  | _, _, 0, v, .cons (d := d) h r, e => by
    simp at e
    subst e
    exact ⟨d, rfl, h⟩
  | _, _, i + 1, v, .cons h r, e => by
    obtain ⟨d, e1, e2⟩ := Dns.getV (i := i) r (by simpa using e)
    exact ⟨d, by simpa using e1, e2⟩
theorem Dns.app {K : PySem.W.Frag} {F : Hp} : ∀ {vs ws : List V} {ds es : List PyData}, Dns K F vs ds → Dns K F ws es → Dns K F (vs ++ ws) (ds ++ es)
  | _, _, _, _, .nil, s => s
  | _, _, _, _, .cons h r, s => .cons h (Dns.app r s)
theorem Dns.take {K : PySem.W.Frag} {F : Hp} : ∀ {vs : List V} {ds : List PyData} (n : Nat), Dns K F vs ds → Dns K F (vs.take n) (ds.take n)
  | _, _, 0, _ => .nil
  | _, _, _ + 1, .nil => .nil
  | _, _, n + 1, .cons h r => .cons h (Dns.take n r)
theorem Dns.drop {K : PySem.W.Frag} {F : Hp} : ∀ {vs : List V} {ds : List PyData} (n : Nat), Dns K F vs ds → Dns K F (vs.drop n) (ds.drop n)
  | _, _, 0, r => r
  | _, _, _ + 1, .nil => .nil
  | _, _, n + 1, .cons _ r => Dns.drop n r
theorem dns_ints {K : PySem.W.Frag} {F : Hp} : ∀ ns : List Int, Dns K F (ns.map V.int) (ns.map PyData.int)
  | [] => .nil
  | n :: r => .cons (.int n) (dns_ints r)
theorem ints_of {K : PySem.W.Frag} {F : Hp} : ∀ {ns : List Int} {vs : List V}, Dns K F vs (ns.map PyData.int) → vs = ns.map V.int
  | [], _, .nil => rfl
  | n :: r, _, .cons h t => by
    cases h
    rw [ints_of t]
    rfl
theorem bls_of {K : PySem.W.Frag} {F : Hp} : ∀ {ns : List Bool} {vs : List V}, Dns K F vs (ns.map PyData.bool) → vs = ns.map V.bl
  | [], _, .nil => rfl
  | n :: r, _, .cons h t => by
    cases h
    rw [bls_of t]
    rfl
theorem strs_of {K : PySem.W.Frag} {F : Hp} : ∀ {ns : List Str} {vs : List V}, Dns K F vs (ns.map PyData.str) → vs = ns.map V.str
  | [], _, .nil => rfl
  | n :: r, _, .cons h t => by
    cases h
    rw [strs_of t]
    rfl

/-! ### how both heaps grow -/
structure Grow (F H G J : Hp) : Prop where
  ex : Same F G
  le : Same G J
  kp : Same H J
  new : ∀ b, F b = none → H b ≠ none → G b = none
section
variable {F H G J M N : Hp}
theorem Grow.refl (e : Same F H) : Grow F H F H := ⟨Same.refl F, e, Same.refl H, fun _ h _ => h⟩
theorem Grow.base (g : Grow F H G J) : Same F J := g.ex.trans g.le
theorem Grow.trans (a : Grow F H G J) (b : Grow G J M N) : Grow F H M N where
  ex := a.ex.trans b.ex
  le := b.le
  kp := a.kp.trans b.kp
  new := fun x h1 h2 => by
    refine b.new x (a.new x h1 h2) fun z => h2 ?_
    exact a.kp.free z
/-- a new object, for good -/
theorem Grow.add (le : Same F H) {p : Addr} {o : HO} (hp : H p = none) : Grow F H (upd F p o) (upd H p o) := by
  have hF : F p = none := le.free hp
  refine ⟨fun b u e => ?_, fun b u e => ?_, fun b u e => ?_, fun b h1 h2 => ?_⟩
  · rw [upd_ne (ne_of_none e hF)]
    exact e
  · by_cases hb : b = p
    · subst hb
      rw [upd_same] at e ⊢
      exact e
    · rw [upd_ne hb] at e ⊢
      exact le b u e
  · rw [upd_ne (ne_of_none e hp)]
    exact e
  · rw [upd_ne (show b ≠ p from fun z => h2 (by rw [z]; exact hp))]
    exact h1
/-- a new object, one's own -/
theorem Grow.own (le : Same F H) {p : Addr} {o : HO} (hp : H p = none) : Grow F H F (upd H p o) := by
  refine ⟨Same.refl F, fun b u e => ?_, fun b u e => ?_, fun b h1 _ => h1⟩
  · rw [upd_ne (ne_of_none (le b u e) hp)]
    exact le b u e
  · rw [upd_ne (ne_of_none e hp)]
    exact e
/-- one's own object is changed -/
theorem Grow.set (g : Grow F H G J) {p : Addr} {o : HO} (hG : G p = none) (hH : H p = none) : Grow F H G (upd J p o) := by
  refine ⟨g.ex, fun b u e => ?_, fun b u e => ?_, g.new⟩
  · rw [upd_ne (ne_of_none e hG)]
    exact g.le b u e
  · rw [upd_ne (ne_of_none e hH)]
    exact g.kp b u e
/-- one's own object is let stand for good -/
theorem Grow.fix (g : Grow F H G J) {p : Addr} {o : HO} (hG : G p = none) (hH : H p = none) (hJ : J p = some o) : Grow F H (upd G p o) J := by
  refine ⟨fun b u e => ?_, fun b u e => ?_, g.kp, fun b h1 h2 => ?_⟩
  · rw [upd_ne (ne_of_none (g.ex b u e) hG)]
    exact g.ex b u e
  · by_cases hb : b = p
    · subst hb
      rw [upd_same] at e
      rw [hJ]
      exact e
    · rw [upd_ne hb] at e
      exact g.le b u e
  · rw [upd_ne (show b ≠ p from fun z => h2 (by rw [z]; exact hH))]
    exact g.new b h1 h2
end

/-! ### the slots' data -/
def Sl (K : PySem.W.Frag) (F : Hp) (σ : L2.St) (env : List (Option PyData)) : Prop := ∀ (i : Nat) (d : PyData), env[i]? = some (some d) → ∃ v, σ[i]? = some (some v) ∧ Dn K F v d
section
variable {K : PySem.W.Frag} {F G : Hp} {σ : L2.St} {env : List (Option PyData)}
theorem Sl.mono (e : Same F G) (h : Sl K F σ env) : Sl K G σ env := fun i d q => by
  obtain ⟨v, e1, e2⟩ := h i d q
  exact ⟨v, e1, e2.mono e⟩
theorem Sl.set {i : Nat} {v : V} {d : PyData} (h : Sl K F σ env) (hl : env.length ≤ σ.length) (r : Dn K F v d) : Sl K F (σ.set i (some v)) (env.set i (some d)) := fun j e q => by
  by_cases hj : j = i
  · subst hj
    have hlt : j < env.length := by
      have := (List.getElem?_eq_some_iff.mp q).1
      simpa using this
    rw [List.getElem?_set_self hlt] at q
    cases q
    exact ⟨v, List.getElem?_set_self (Nat.lt_of_lt_of_le hlt hl), r⟩
  · rw [List.getElem?_set_ne (Ne.symm hj)] at q ⊢
    exact h j e q
theorem Sl.lose {i : Nat} {o : Option V} (h : Sl K F σ env) : Sl K F (σ.set i o) (env.set i none) := fun j e q => by
  by_cases hj : j = i
  · subst hj
    by_cases hlt : j < env.length
    · rw [List.getElem?_set_self hlt] at q
      cases q
    · rw [List.getElem?_eq_none (by simpa using hlt)] at q
      cases q
  · rw [List.getElem?_set_ne (Ne.symm hj)] at q ⊢
    exact h j e q
def wipeE (env : List (Option PyData)) : List Nat → List (Option PyData)
  | [] => env
  | v :: vs => (wipeE env vs).set v none
theorem Sl.wipe (h : Sl K F σ env) : ∀ vs : List Nat, Sl K F (L2.wipe σ vs) (wipeE env vs)
  | [] => h
  | v :: vs => (Sl.wipe h vs).lose
theorem wipeE_len : ∀ vs : List Nat, (wipeE env vs).length = env.length
  | [] => rfl
  | v :: vs => by
    show ((wipeE env vs).set v none).length = _
    rw [List.length_set, wipeE_len vs]
theorem sl_nil : Sl K F σ [] := fun i d q => by simp at q
theorem sl_start : ∀ {vs : List V} {ds : List PyData} (r : Dns K F vs ds) (N : List Str), Sl K F (L2.start N vs) (ds.map some) := fun {vs ds} r N i d q => by
  rw [List.getElem?_map] at q
  cases e : ds[i]? with
  | none =>
    rw [e] at q
    cases q
  | some d' =>
    rw [e] at q
    cases q
    obtain ⟨v, e1, e2⟩ := r.get e
    refine ⟨v, ?_, e2⟩
    unfold L2.start
    have hlt := (List.getElem?_eq_some_iff.mp e1).1
    rw [List.getElem?_append_left (by simpa using hlt), List.getElem?_map, e1]
    rfl
/-- more slots, without a datum -/
theorem Sl.pad (h : Sl K F σ env) (n : Nat) : Sl K F σ (env ++ List.replicate n none) := fun i d q => by
  by_cases hi : i < env.length
  · rw [List.getElem?_append_left hi] at q
    exact h i d q
  · rw [List.getElem?_append_right (by omega), List.getElem?_replicate] at q
    split at q <;> cases q
end
theorem wipe_set (σ : L2.St) {j : Nat} {x : Option V} : ∀ vs : List Nat, j ∈ vs → L2.wipe ((L2.wipe σ vs).set j x) vs = L2.wipe σ vs := fun vs hj => by
  have out : ∀ (τ : L2.St) (us : List Nat) (i : Nat), (L2.wipe τ us)[i]? = if i ∈ us then (if i < τ.length then some none else none) else τ[i]? := by
    intro τ us
    induction us with
    | nil => intro i; simp [L2.wipe]
    | cons u us ih =>
      intro i
      show ((L2.wipe τ us).set u none)[i]? = _
      rw [List.getElem?_set]
      by_cases hu : u = i
      · subst hu
        rw [if_pos rfl]
        have e : (L2.wipe τ us).length = τ.length := L2.wipe_length τ us
        rw [e]
        simp
      · rw [if_neg hu, ih i]
        have : (i ∈ u :: us) = (i ∈ us) := by
          apply propext
          constructor
          · intro h
            rcases List.mem_cons.mp h with h | h
            · exact absurd h.symm hu
            · exact h
          · exact List.mem_cons_of_mem _
        simp only [this]
  apply List.ext_getElem?
  intro i
  rw [out, out]
  by_cases hi : i ∈ vs
  · rw [if_pos hi, if_pos hi, List.length_set, L2.wipe_length]
  · rw [if_neg hi, if_neg hi, List.getElem?_set_ne (show j ≠ i from fun z => hi (by rw [← z]; exact hj)), out, if_neg hi]
end Lay

/-! Lay1: the judgements and their rules: expressions, arguments, tests, statements. -/
namespace Lay
open PySem L2

/-! ### what the module gives; where one stands -/
structure Md where
  P : Program
  w : World
  K : PySem.W.Frag
  mg : Str → Option Value
  base : Heap
structure Ok0 (M : Md) (X : Cx) (N : List Str) (sc : Scope) : Prop where
  eP : X.prog = M.P
  eW : X.w = M.w
  eK : X.K = M.K
  eG : X.mg = M.mg
  eB : X.base = M.base
  eN : X.N = N
  eS : X.env.scope = sc
  nd : N.Nodup
structure Ok (M : Md) (X : Cx) (N : List Str) (sc : Scope) (k : Nat) : Prop extends Ok0 M X N sc where
  calm : X.calm = true
  room : Room k X.A
  pass : PassesOwn (model X.prog X.w) X.A X.env X.xe
/-- a def's own body, where every name's place was made at the entry -/
structure Fs (X : Cx) : Prop where
  fn : ∀ x, X.fn x = true
  stk : X.stack = X.env :: X.outer
  frm : X.env.frame = some X.env.locals
theorem Ok.less {M : Md} {X : Cx} {N : List Str} {sc : Scope} {k j : Nat} (o : Ok M X N sc k) (h : j ≤ k) : Ok M X N sc j := ⟨o.toOk0, o.calm, o.room.mono h, o.pass⟩

/-! ### readings that are as weak as can be -/
structure WE (X : Cx) (e : Expr) (σ : L2.St) (H : Hp) (Q : VK) : Prop where
  run : ∀ (pins : List (Addr × Obj)) (s : Shared), Inv X pins σ H s → wpAny (model X.prog X.w) X.A (eval e X.env) (EP X pins σ Q) X.xe s
theorem WE.pe {X : Cx} {e : Expr} : PE X e (WE X e) := ⟨fun pins s σ H Q I h => h.run pins s I⟩
theorem WE.of {X : Cx} {e : Expr} {t : TE} (p : PE X e t) {σ : L2.St} {H : Hp} {Q : VK} (h : t σ H Q) : WE X e σ H Q := ⟨fun pins s I => p.run pins s σ H Q I h⟩
structure WT (X : Cx) (e : Expr) (σ : L2.St) (H : Hp) (Q : Bool → Hp → Prop) : Prop where
  run : ∀ (pins : List (Addr × Obj)) (s : Shared), Inv X pins σ H s → wpAny (model X.prog X.w) X.A (isTrue e X.env (eval e X.env)) (TP X pins σ Q) X.xe s
theorem WT.pt {X : Cx} {e : Expr} : PT X e (WT X e) := ⟨fun pins s σ H Q I h => h.run pins s I⟩
theorem WT.of {X : Cx} {e : Expr} {t : TT} (p : PT X e t) {σ : L2.St} {H : Hp} {Q : Bool → Hp → Prop} (h : t σ H Q) : WT X e σ H Q := ⟨fun pins s I => p.run pins s σ H Q I h⟩
structure WW (X : Cx) (e : Expr) (σ : L2.St) (H : Hp) (Q : Bool → Hp → Prop) : Prop where
  run : ∀ (whole : Sem Value) (pins : List (Addr × Obj)) (s : Shared), Inv X pins σ H s → wpAny (model X.prog X.w) X.A (isTrue e X.env whole) (TP X pins σ Q) X.xe s
theorem WW.pw {X : Cx} {e : Expr} : PW X e (WW X e) := ⟨fun whole pins s σ H Q I h => h.run whole pins s I⟩
theorem WW.of {X : Cx} {e : Expr} {t : TT} (p : PW X e t) {σ : L2.St} {H : Hp} {Q : Bool → Hp → Prop} (h : t σ H Q) : WW X e σ H Q := ⟨fun whole pins s I => p.run whole pins s σ H Q I h⟩
structure WA (X : Cx) (es : List Expr) (σ : L2.St) (H : Hp) (Q : List V → Hp → Prop) : Prop where
  run : ∀ (pos : Pos) (pins : List (Addr × Obj)) (s : Shared), Inv X pins σ H s → wpAny (model X.prog X.w) X.A (spliced (backTo pos (starEach es X.env))) (AP X pins σ Q) X.xe s
theorem WA.pa {X : Cx} {es : List Expr} : PA X es (WA X es) := ⟨fun pos pins s σ H Q I h => h.run pos pins s I⟩
theorem WA.of {X : Cx} {es : List Expr} {t : TA} (p : PA X es t) {σ : L2.St} {H : Hp} {Q : List V → Hp → Prop} (h : t σ H Q) : WA X es σ H Q := ⟨fun pos pins s I => p.run pos pins s σ H Q I h⟩
structure W1 (X : Cx) (st : Stmt) (D : Ends) (σ : L2.St) (H : Hp) : Prop where
  run : ∀ (pins : List (Addr × Obj)) (s : Shared), Inv X pins σ H s → wpAny (model X.prog X.w) X.A (exec st X.env) (SP X pins D) X.xe s
theorem W1.ps {X : Cx} {st : Stmt} : PS X st (W1 X st) := ⟨fun pins s σ H D I h => h.run pins s I⟩
theorem W1.of {X : Cx} {st : Stmt} {t : TS} (p : PS X st t) {σ : L2.St} {H : Hp} {D : Ends} (h : t D σ H) : W1 X st D σ H := ⟨fun pins s I => p.run pins s σ H D I h⟩
structure WS (X : Cx) (st : List Stmt) (D : Ends) (σ : L2.St) (H : Hp) : Prop where
  run : ∀ (pins : List (Addr × Obj)) (s : Shared), Inv X pins σ H s → wpAny (model X.prog X.w) X.A (execs st X.env) (SP X pins D) X.xe s
theorem WS.ps {X : Cx} {st : List Stmt} : PSs X st (WS X st) := ⟨fun pins s σ H D I h => h.run pins s I⟩
theorem WS.of {X : Cx} {st : List Stmt} {t : TS} (p : PSs X st t) {σ : L2.St} {H : Hp} {D : Ends} (h : t D σ H) : WS X st D σ H := ⟨fun pins s I => p.run pins s σ H D I h⟩
structure WI (X : Cx) (tg iter : Expr) (σ : L2.St) (H : Hp) (R : It → Hp → Prop) : Prop where
  run : ∀ (pins : List (Addr × Obj)) (s : Shared), Inv X pins σ H s → wpAny (model X.prog X.w) X.A (eval iter X.env) (fun v s1 => wpAny (model X.prog X.w) X.A (pyIter v) (PIE X pins σ tg R) X.xe s1) X.xe s
theorem WI.pi {X : Cx} {tg iter : Expr} : PI X tg iter (WI X tg iter) := ⟨fun pins s σ H R I h => h.run pins s I⟩
theorem WI.of {X : Cx} {tg iter : Expr} {t : TI} (p : PI X tg iter t) {σ : L2.St} {H : Hp} {R : It → Hp → Prop} (h : t σ H R) : WI X tg iter σ H R := ⟨fun pins s I => p.run pins s σ H R I h⟩

/-! ### the judgements -/
/-- e gives the datum d -/
structure XD (M : Md) (X : Cx) (e : Expr) (σ : L2.St) (F H : Hp) (d : PyData) : Prop where
  run : ∀ F1 H1, Grow F H F1 H1 → ∀ Q : VK, (∀ v F' H', Grow F1 H1 F' H' → Dn M.K F' v d → Q v H') → WE X e σ H1 Q
/-- e gives a datum that may stand in one's own lists, for a look -/
structure XH (M : Md) (X : Cx) (e : Expr) (σ : L2.St) (F H : Hp) (d : PyData) : Prop where
  run : ∀ F1 H1, Grow F H F1 H1 → ∀ Q : VK, (∀ v F' H', Grow F1 H1 F' H' → Dn M.K H' v d → Q v H') → WE X e σ H1 Q
/-- e gives a new list of ds -/
structure XO (M : Md) (X : Cx) (e : Expr) (σ : L2.St) (F H : Hp) (ds : List PyData) : Prop where
  run : ∀ F1 H1, Grow F H F1 H1 → ∀ Q : VK, (∀ p vs F' H', Grow F1 H1 F' H' → F' p = none → H1 p = none → H' p = some (.lst vs) → Dns M.K F' vs ds → Q (.ref p) H') → WE X e σ H1 Q
structure XA (M : Md) (X : Cx) (es : List Expr) (σ : L2.St) (F H : Hp) (ds : List PyData) : Prop where
  run : ∀ F1 H1, Grow F H F1 H1 → ∀ Q : List V → Hp → Prop, (∀ vs F' H', Grow F1 H1 F' H' → Dns M.K F' vs ds → Q vs H') → WA X es σ H1 Q
structure XB (M : Md) (X : Cx) (e : Expr) (σ : L2.St) (F H : Hp) (b : Bool) : Prop where
  run : ∀ F1 H1, Grow F H F1 H1 → ∀ Q : Bool → Hp → Prop, (∀ F' H', Grow F1 H1 F' H' → Q b H') → WT X e σ H1 Q
structure XW (M : Md) (X : Cx) (e : Expr) (σ : L2.St) (F H : Hp) (b : Bool) : Prop where
  run : ∀ F1 H1, Grow F H F1 H1 → ∀ Q : Bool → Hp → Prop, (∀ F' H', Grow F1 H1 F' H' → Q b H') → WW X e σ H1 Q

section
variable {M : Md} {X : Cx} {N : List Str} {sc : Scope} {k : Nat} {σ : L2.St} {env : List (Option PyData)} {F H : Hp} {d d1 d2 : PyData} {ds : List PyData} {e a b : Expr} {es : List Expr} {pos : Pos} {i j : Int}
theorem XD.mono {G J : Hp} (h : XD M X e σ F H d) (g : Grow F H G J) : XD M X e σ G J d := ⟨fun F1 H1 g1 Q q => h.run F1 H1 (g.trans g1) Q q⟩
theorem XB.mono {G J : Hp} {c : Bool} (h : XB M X e σ F H c) (g : Grow F H G J) : XB M X e σ G J c := ⟨fun F1 H1 g1 Q q => h.run F1 H1 (g.trans g1) Q q⟩
theorem XD.to (h : XD M X e σ F H d1) (q : d1 = d2) : XD M X e σ F H d2 := q ▸ h
theorem XB.to {c c' : Bool} (h : XB M X e σ F H c) (q : c = c') : XB M X e σ F H c' := q ▸ h
theorem XO.to {es' : List PyData} (h : XO M X e σ F H ds) (q : ds = es') : XO M X e σ F H es' := q ▸ h
theorem XD.xh (h : XD M X e σ F H d) : XH M X e σ F H d := ⟨fun F1 H1 g Q q => h.run F1 H1 g Q fun v F' H' g' r => q v F' H' g' (r.mono g'.le)⟩
theorem XO.xd (h : XO M X e σ F H ds) : XD M X e σ F H (.list ds) := ⟨fun F1 H1 g Q q => h.run F1 H1 g Q fun p vs F' H' g' hF hH hp r =>
  q _ (upd F' p (.lst vs)) H' (g'.fix hF hH hp) (.lst upd_same (r.mono fun b u z => by
    rw [upd_ne (ne_of_none z hF)]
    exact z))⟩

/-! ### names, constants -/
def visB (sc : Scope) (x : Str) : Bool := match sc.names.lookup x with
  | some .local => true
  | some .cell => true
  | some .free => true
  | _ => false
theorem vis_of {x : Str} (h : visB sc x = true) : Vis sc x := by
  unfold visB at h
  unfold Vis
  split at h
  · rename_i e; exact .inl e
  · rename_i e; exact .inr (.inl e)
  · rename_i e; exact .inr (.inr e)
  · cases h
/-- a slot by its value -/
theorem we_slot (o : Ok0 M X N sc) (i : Nat) {x : Str} {v : V} {Q : VK} (hv : σ[i]? = some (some v)) (q : Q v H) (hN : N[i]? = some x) (hs : visB sc x = true)
    (hd : (x == ("__debug__" : Str)) = false := by decide +kernel) (hcd : (x == ("__classdict__" : Str)) = false := by decide +kernel) : WE X (.Name x pos) σ H Q :=
  WE.of (pe_var (by rw [o.eN]; exact hN) (by rw [o.eS]; exact vis_of hs) hd hcd) ⟨v, hv, q⟩
theorem x_slot (o : Ok0 M X N sc) (i : Nat) {x : Str} {v : V} (hv : σ[i]? = some (some v)) (r : Dn M.K F v d) (hN : N[i]? = some x := by rfl) (hs : visB sc x = true := by decide +kernel)
    (hd : (x == ("__debug__" : Str)) = false := by decide +kernel) (hcd : (x == ("__classdict__" : Str)) = false := by decide +kernel) : XD M X (.Name x pos) σ F H d :=
  ⟨fun F1 H1 g Q q => we_slot o i hv (q v F1 H1 (Grow.refl g.le) (r.mono g.ex)) hN hs hd hcd⟩
theorem x_var (o : Ok0 M X N sc) (S : Sl M.K F σ env) (i : Nat) {x : Str} (he : env[i]? = some (some d)) (hN : N[i]? = some x) (hs : visB sc x = true := by decide +kernel)
    (hd : (x == ("__debug__" : Str)) = false := by decide +kernel) (hcd : (x == ("__classdict__" : Str)) = false := by decide +kernel) : XD M X (.Name x pos) σ F H d := by
  obtain ⟨v, e1, r⟩ := S i d he
  exact x_slot o i e1 r hN hs hd hcd
theorem x_int {n : Int} {c : Nat} : XD M X (.Constant (.int n) c pos) σ F H (.int n) := ⟨fun F1 H1 g Q q => WE.of pe_int (q _ F1 H1 (Grow.refl g.le) (.int n))⟩
theorem x_str {x : Str} {c : Nat} : XD M X (.Constant (.str x) c pos) σ F H (.str x) := ⟨fun F1 H1 g Q q => WE.of pe_str (q _ F1 H1 (Grow.refl g.le) (.str x))⟩
theorem x_bl {x : Bool} {c : Nat} : XD M X (.Constant (.bool x) c pos) σ F H (.bool x) := ⟨fun F1 H1 g Q q => WE.of pe_bl (q _ F1 H1 (Grow.refl g.le) (.bl x))⟩
theorem x_non {c : Nat} : XD M X (.Constant .none c pos) σ F H .none := ⟨fun F1 H1 g Q q => WE.of pe_non (q _ F1 H1 (Grow.refl g.le) .non)⟩
theorem gl_of (o : Ok0 M X N sc) {x : Str} (h : sc.names.lookup x = some .globalImplicit) : Gl X x := by
  unfold Gl Env.kindOf
  rw [o.eS]
  exact h
/-- a constant of the module -/
theorem x_glob (o : Ok0 M X N sc) {x : Str} {v : V} {u : Value} (hm : M.mg x = some u) (r : RelV v u) (dn : Dn M.K F v d) (hg : sc.names.lookup x = some .globalImplicit := by decide +kernel)
    (hd : (x == ("__debug__" : Str)) = false := by decide +kernel) : XD M X (.Name x pos) σ F H d :=
  ⟨fun F1 H1 g Q q => WE.of (pe_glob (gl_of o hg) (by rw [o.eG]; exact hm) r hd) (q v F1 H1 (Grow.refl g.le) (dn.mono g.ex))⟩

/-! ### operators -/
theorem x_bin {op : Operator} {r : R2} (ho : OpR X (binaryOp op) r) (ha : XD M X a σ F H d1) (hb : XD M X b σ F H d2)
    (hr : ∀ x y F1 H1, Grow F H F1 H1 → Dn M.K F1 x d1 → Dn M.K F1 y d2 → ∀ Q : VK, (∀ v F' H', Grow F1 H1 F' H' → Dn M.K F' v d → Q v H') → r x y H1 Q) : XD M X (.BinOp a op b pos) σ F H d := by
  refine ⟨fun F1 H1 g Q q => ?_⟩
  refine WE.of (pe_op ho WE.pe WE.pe) ?_
  refine ha.run F1 H1 g _ fun x F2 H2 g2 r2 => ?_
  refine hb.run F2 H2 (g.trans g2) _ fun y F3 H3 g3 r3 => ?_
  exact hr x y F3 H3 ((g.trans g2).trans g3) (r2.mono g3.ex) r3 Q fun v F' H' g' r' => q v F' H' ((g2.trans g3).trans g') r'
theorem x_ii {op : Operator} {f : Int → Int → Int} (ho : OpR X (binaryOp op) (rI0 fun i j => .int (f i j))) (ha : XD M X a σ F H (.int i)) (hb : XD M X b σ F H (.int j)) : XD M X (.BinOp a op b pos) σ F H (.int (f i j)) :=
  x_bin ho ha hb fun x y F1 H1 g rx ry Q q => by
    cases rx
    cases ry
    exact ⟨_, _, rfl, rfl, q _ F1 H1 (Grow.refl g.le) (.int _)⟩
theorem x_iiC {op : Operator} {C : Int → Int → Prop} {f : Int → Int → Int} (ho : OpR X (binaryOp op) (rI C fun i j => .int (f i j))) (ha : XD M X a σ F H (.int i)) (hb : XD M X b σ F H (.int j)) (hc : C i j) : XD M X (.BinOp a op b pos) σ F H (.int (f i j)) :=
  x_bin ho ha hb fun x y F1 H1 g rx ry Q q => by
    cases rx
    cases ry
    exact ⟨_, _, rfl, rfl, hc, q _ F1 H1 (Grow.refl g.le) (.int _)⟩
theorem x_add (ha : XD M X a σ F H (.int i)) (hb : XD M X b σ F H (.int j)) : XD M X (.BinOp a .Add b pos) σ F H (.int (i + j)) := x_ii (f := fun i j => i + j) op_add ha hb
theorem x_sub (ha : XD M X a σ F H (.int i)) (hb : XD M X b σ F H (.int j)) : XD M X (.BinOp a .Sub b pos) σ F H (.int (i - j)) := x_ii (f := fun i j => i - j) op_sub ha hb
theorem x_mulR (ha : XD M X a σ F H (.int i)) (hb : XD M X b σ F H (.int j)) (h : -(2 ^ 64) < j ∧ j < 2 ^ 64) : XD M X (.BinOp a .Mult b pos) σ F H (.int (i * j)) := x_iiC (f := fun i j => i * j) op_mul ha hb (.inr h)
theorem x_mulL (ha : XD M X a σ F H (.int i)) (hb : XD M X b σ F H (.int j)) (h : -(2 ^ 64) < i ∧ i < 2 ^ 64) : XD M X (.BinOp a .Mult b pos) σ F H (.int (i * j)) := x_iiC (f := fun i j => i * j) op_mul ha hb (.inl h)
theorem x_mod (ha : XD M X a σ F H (.int i)) (hb : XD M X b σ F H (.int j)) (h : 0 < j) : XD M X (.BinOp a .Mod b pos) σ F H (.int (i % j)) := x_iiC (f := fun i j => i % j) op_mod ha hb h
theorem x_fdiv (ha : XD M X a σ F H (.int i)) (hb : XD M X b σ F H (.int j)) (h : 0 < j ∧ j < 1073741824) : XD M X (.BinOp a .FloorDiv b pos) σ F H (.int (i / j)) := x_iiC (f := fun i j => i / j) op_fdiv ha hb h
theorem x_neg (ha : XD M X a σ F H (.int i)) : XD M X (.UnaryOp .USub a pos) σ F H (.int (-i)) := by
  refine ⟨fun F1 H1 g Q q => ?_⟩
  refine WE.of (pe_un un_neg WE.pe) ?_
  refine ha.run F1 H1 g _ fun x F2 H2 g2 r2 => ?_
  cases r2
  exact ⟨_, rfl, q _ F2 H2 g2 (.int _)⟩
theorem x_adds {x y : Str} (ha : XD M X a σ F H (.str x)) (hb : XD M X b σ F H (.str y)) (h : x.length + y.length ≤ sizeLine) : XD M X (.BinOp a .Add b pos) σ F H (.str (x ++ y)) :=
  x_bin op_add_str ha hb fun x y F1 H1 g rx ry Q q => by
    cases rx
    cases ry
    exact ⟨_, _, rfl, rfl, h, q _ F1 H1 (Grow.refl g.le) (.str _)⟩
/-- a list and a list -/
theorem x_addl {ds1 ds2 : List PyData} (ha : XD M X a σ F H (.list ds1)) (hb : XD M X b σ F H (.list ds2)) (h : ds1.length + ds2.length ≤ sizeLine) : XO M X (.BinOp a .Add b pos) σ F H (ds1 ++ ds2) := by
  refine ⟨fun F1 H1 g Q q => ?_⟩
  refine WE.of (pe_op op_cat WE.pe WE.pe) ?_
  refine ha.run F1 H1 g _ fun x F2 H2 g2 r2 => ?_
  refine hb.run F2 H2 (g.trans g2) _ fun y F3 H3 g3 r3 => ?_
  have r2' := r2.mono g3.ex
  cases r2' with
  | lst h1 s1 =>
    cases r3 with
    | lst h2 s2 =>
      refine ⟨_, _, _, _, rfl, rfl, g3.le _ _ h1, g3.le _ _ h2, by rw [s1.len, s2.len]; exact h, fun p hp => ?_⟩
      exact q p _ F3 _ ((g2.trans g3).trans (Grow.own g3.le hp)) (g3.le.free hp) ((g2.trans g3).kp.free hp) upd_same (s1.app s2)
/-! ### comparisons -/
theorem x_cmp {op : CmpOp} {r : R2} (ho : OpR X (compareOp op) r) (hm : behindInMarks op b = false) (ha : XH M X a σ F H d1) (hb : XH M X b σ F H d2) {c : Bool}
    (hr : ∀ x y F1 H1, Grow F H F1 H1 → Dn M.K H1 x d1 → Dn M.K H1 y d2 → ∀ Q : VK, (∀ F' H', Grow F1 H1 F' H' → Q (.bl c) H') → r x y H1 Q) : XD M X (.Compare a [op] [b] pos) σ F H (.bool c) := by
  refine ⟨fun F1 H1 g Q q => ?_⟩
  refine WE.of (pe_cmpR ho WE.pe WE.pe hm) ?_
  refine ha.run F1 H1 g _ fun x F2 H2 g2 r2 => ?_
  refine hb.run F2 H2 (g.trans g2) _ fun y F3 H3 g3 r3 => ?_
  exact hr x y F3 H3 ((g.trans g2).trans g3) (r2.mono g3.kp) r3 Q fun F' H' g' => q _ F' H' ((g2.trans g3).trans g') (.bl c)
theorem b_cmp {op : CmpOp} {r : R2} (ho : OpR X (compareOp op) r) (hm : behindInMarks op b = false) (ha : XH M X a σ F H d1) (hb : XH M X b σ F H d2) {c : Bool}
    (hr : ∀ x y F1 H1, Grow F H F1 H1 → Dn M.K H1 x d1 → Dn M.K H1 y d2 → ∀ Q : VK, (∀ F' H', Grow F1 H1 F' H' → Q (.bl c) H') → r x y H1 Q) : XB M X (.Compare a [op] [b] pos) σ F H c := by
  refine ⟨fun F1 H1 g Q q => ?_⟩
  refine WT.of (pt_cmpR ho WE.pe WE.pe hm) ?_
  refine ha.run F1 H1 g _ fun x F2 H2 g2 r2 => ?_
  refine hb.run F2 H2 (g.trans g2) _ fun y F3 H3 g3 r3 => ?_
  exact hr x y F3 H3 ((g.trans g2).trans g3) (r2.mono g3.kp) r3 _ fun F' H' g' => ⟨c, rfl, q F' H' ((g2.trans g3).trans g')⟩
/-- a datum that == looks through -/
def Pl (d : PyData) : Prop := SeqAt.shaped d = true
theorem Pl.can (h : Pl d) : d.canLay0 = true := SeqAt.canLay_of_shaped h
theorem eq_rule (o : Ok M X N sc k) (p1 : Pl d1) (p2 : Pl d2) : ∀ x y F1 H1, Grow F H F1 H1 → Dn M.K H1 x d1 → Dn M.K H1 y d2 → ∀ Q : VK, (∀ F' H', Grow F1 H1 F' H' → Q (.bl (PyData.eqv d1 d2)) H') → rEqD X.K x y H1 Q :=
  fun x y F1 H1 g rx ry Q q => ⟨d1, d2, by rw [o.eK]; exact rx.dp p1.can, by rw [o.eK]; exact ry.dp p2.can, p1, p2, q F1 H1 (Grow.refl g.le)⟩
theorem ne_rule (o : Ok M X N sc k) (p1 : Pl d1) (p2 : Pl d2) : ∀ x y F1 H1, Grow F H F1 H1 → Dn M.K H1 x d1 → Dn M.K H1 y d2 → ∀ Q : VK, (∀ F' H', Grow F1 H1 F' H' → Q (.bl (!PyData.eqv d1 d2)) H') → rNeD X.K x y H1 Q :=
  fun x y F1 H1 g rx ry Q q => ⟨d1, d2, by rw [o.eK]; exact rx.dp p1.can, by rw [o.eK]; exact ry.dp p2.can, p1, p2, q F1 H1 (Grow.refl g.le)⟩
theorem x_eq (o : Ok M X N sc k) (ha : XH M X a σ F H d1) (hb : XH M X b σ F H d2) (p1 : Pl d1) (p2 : Pl d2) : XD M X (.Compare a [.Eq] [b] pos) σ F H (.bool (PyData.eqv d1 d2)) :=
  x_cmp (op_eqD o.room.units) (nomark _) ha hb (eq_rule o p1 p2)
theorem x_ne (o : Ok M X N sc k) (ha : XH M X a σ F H d1) (hb : XH M X b σ F H d2) (p1 : Pl d1) (p2 : Pl d2) : XD M X (.Compare a [.NotEq] [b] pos) σ F H (.bool (!PyData.eqv d1 d2)) :=
  x_cmp (op_neD o.room.units) (nomark _) ha hb (ne_rule o p1 p2)
theorem b_eq (o : Ok M X N sc k) (ha : XH M X a σ F H d1) (hb : XH M X b σ F H d2) (p1 : Pl d1) (p2 : Pl d2) : XB M X (.Compare a [.Eq] [b] pos) σ F H (PyData.eqv d1 d2) :=
  b_cmp (op_eqD o.room.units) (nomark _) ha hb (eq_rule o p1 p2)
theorem b_ne (o : Ok M X N sc k) (ha : XH M X a σ F H d1) (hb : XH M X b σ F H d2) (p1 : Pl d1) (p2 : Pl d2) : XB M X (.Compare a [.NotEq] [b] pos) σ F H (!PyData.eqv d1 d2) :=
  b_cmp (op_neD o.room.units) (nomark _) ha hb (ne_rule o p1 p2)
theorem cmpI_rule {g : Int → Int → Bool} : ∀ x y F1 H1, Grow F H F1 H1 → Dn M.K H1 x (.int i) → Dn M.K H1 y (.int j) → ∀ Q : VK, (∀ F' H', Grow F1 H1 F' H' → Q (.bl (g i j)) H') → rI0 (fun i j => .bl (g i j)) x y H1 Q :=
  fun x y F1 H1 g' rx ry Q q => by
    cases rx
    cases ry
    exact ⟨_, _, rfl, rfl, q F1 H1 (Grow.refl g'.le)⟩
theorem x_lt (ha : XH M X a σ F H (.int i)) (hb : XH M X b σ F H (.int j)) : XD M X (.Compare a [.Lt] [b] pos) σ F H (.bool (decide (i < j))) := x_cmp op_lt (nomark _) ha hb (cmpI_rule (g := fun i j => decide (i < j)))
theorem x_le (ha : XH M X a σ F H (.int i)) (hb : XH M X b σ F H (.int j)) : XD M X (.Compare a [.LtE] [b] pos) σ F H (.bool (decide (i ≤ j))) := x_cmp op_le (nomark _) ha hb (cmpI_rule (g := fun i j => decide (i ≤ j)))
theorem x_gt (ha : XH M X a σ F H (.int i)) (hb : XH M X b σ F H (.int j)) : XD M X (.Compare a [.Gt] [b] pos) σ F H (.bool (decide (j < i))) := x_cmp op_gt (nomark _) ha hb (cmpI_rule (g := fun i j => decide (j < i)))
theorem x_ge (ha : XH M X a σ F H (.int i)) (hb : XH M X b σ F H (.int j)) : XD M X (.Compare a [.GtE] [b] pos) σ F H (.bool (decide (j ≤ i))) := x_cmp op_ge (nomark _) ha hb (cmpI_rule (g := fun i j => decide (j ≤ i)))
theorem b_lt (ha : XH M X a σ F H (.int i)) (hb : XH M X b σ F H (.int j)) : XB M X (.Compare a [.Lt] [b] pos) σ F H (decide (i < j)) := b_cmp op_lt (nomark _) ha hb (cmpI_rule (g := fun i j => decide (i < j)))
theorem b_le (ha : XH M X a σ F H (.int i)) (hb : XH M X b σ F H (.int j)) : XB M X (.Compare a [.LtE] [b] pos) σ F H (decide (i ≤ j)) := b_cmp op_le (nomark _) ha hb (cmpI_rule (g := fun i j => decide (i ≤ j)))
theorem b_gt (ha : XH M X a σ F H (.int i)) (hb : XH M X b σ F H (.int j)) : XB M X (.Compare a [.Gt] [b] pos) σ F H (decide (j < i)) := b_cmp op_gt (nomark _) ha hb (cmpI_rule (g := fun i j => decide (j < i)))
theorem b_ge (ha : XH M X a σ F H (.int i)) (hb : XH M X b σ F H (.int j)) : XB M X (.Compare a [.GtE] [b] pos) σ F H (decide (j ≤ i)) := b_cmp op_ge (nomark _) ha hb (cmpI_rule (g := fun i j => decide (j ≤ i)))
/-- lo <= x <= hi, and the like -/
theorem x_chain {op op' : CmpOp} {g g' : Int → Int → Bool} {c : Expr} {l : Int} (h1 : OpR X (compareOp op) (rI0 fun i j => .bl (g i j))) (h2 : OpR X (compareOp op') (rI0 fun i j => .bl (g' i j)))
    (ha : XD M X a σ F H (.int i)) (hb : XD M X b σ F H (.int j)) (hc : XD M X c σ F H (.int l)) (hm : lastMarks [op, op'] [b, c] = false := by with_unfolding_all rfl) : XD M X (.Compare a [op, op'] [b, c] pos) σ F H (.bool (g i j && g' j l)) := by
  refine ⟨fun F1 H1 gr Q q => ?_⟩
  refine WE.of (pe_chain h1 h2 WE.pe WE.pe WE.pe hm) ?_
  refine ha.run F1 H1 gr _ fun x F2 H2 g2 r2 => ?_
  refine hb.run F2 H2 (gr.trans g2) _ fun y F3 H3 g3 r3 => ?_
  cases r2
  cases r3
  refine ⟨_, _, rfl, rfl, _, rfl, ?_⟩
  cases e : g i j with
  | true =>
    show WE X c σ H3 _
    refine hc.run F3 H3 ((gr.trans g2).trans g3) _ fun z F4 H4 g4 r4 => ?_
    cases r4
    exact ⟨_, _, rfl, rfl, q _ F4 H4 ((g2.trans g3).trans g4) (by rw [e, Bool.true_and]; exact .bl _)⟩
  | false =>
    show Q (.bl false) H3
    exact q _ F3 H3 (g2.trans g3) (by rw [e, Bool.false_and]; exact .bl _)
theorem b_chain {op op' : CmpOp} {g g' : Int → Int → Bool} {c : Expr} {l : Int} (h1 : OpR X (compareOp op) (rI0 fun i j => .bl (g i j))) (h2 : OpR X (compareOp op') (rI0 fun i j => .bl (g' i j)))
    (ha : XD M X a σ F H (.int i)) (hb : XD M X b σ F H (.int j)) (hc : XD M X c σ F H (.int l)) (hm : lastMarks [op, op'] [b, c] = false := by with_unfolding_all rfl) : XB M X (.Compare a [op, op'] [b, c] pos) σ F H (g i j && g' j l) := by
  refine ⟨fun F1 H1 gr Q q => ?_⟩
  refine WT.of (pt_chain h1 h2 WE.pe WE.pe WE.pe hm) ?_
  refine ha.run F1 H1 gr _ fun x F2 H2 g2 r2 => ?_
  refine hb.run F2 H2 (gr.trans g2) _ fun y F3 H3 g3 r3 => ?_
  cases r2
  cases r3
  refine ⟨_, _, rfl, rfl, _, rfl, ?_⟩
  cases e : g i j with
  | true =>
    show WE X c σ H3 _
    refine hc.run F3 H3 ((gr.trans g2).trans g3) _ fun z F4 H4 g4 r4 => ?_
    cases r4
    exact ⟨_, _, rfl, rfl, _, rfl, by rw [e, Bool.true_and] at q; exact q F4 H4 ((g2.trans g3).trans g4)⟩
  | false => exact ⟨false, rfl, by rw [e, Bool.false_and] at q; exact q F3 H3 (g2.trans g3)⟩
def isNone : PyData → Bool
  | .none => true
  | _ => false
theorem isN_of : ∀ (v : V) (G : Hp), Dn M.K G v d → decide (v = V.non) = isNone d := fun v G r => by
  cases r <;> rfl
theorem b_isN (ha : XH M X a σ F H d1) {c : Nat} {p : Pos} : XB M X (.Compare a [.Is] [.Constant .none c p] pos) σ F H (isNone d1) := by
  refine ⟨fun F1 H1 g Q q => ?_⟩
  refine WT.of (pt_cmpR op_isN WE.pe pe_non (nomark _)) ?_
  refine ha.run F1 H1 g _ fun x F2 H2 g2 r2 => ?_
  exact ⟨rfl, _, by rw [isN_of x H2 r2], q F2 H2 g2⟩
theorem b_notN (ha : XH M X a σ F H d1) {c : Nat} {p : Pos} : XB M X (.Compare a [.IsNot] [.Constant .none c p] pos) σ F H (!isNone d1) := by
  refine ⟨fun F1 H1 g Q q => ?_⟩
  refine WT.of (pt_cmpR op_notN WE.pe pe_non (nomark _)) ?_
  refine ha.run F1 H1 g _ fun x F2 H2 g2 r2 => ?_
  exact ⟨rfl, _, by rw [isN_of x H2 r2], q F2 H2 g2⟩

/-! ### tests -/
theorem b_val {c : Bool} (h : XD M X e σ F H (.bool c)) (he : ∀ whole, isTrue e X.env whole = (do let v ← whole; standAt e.pos; holding [v] (truthy v)) := by intro _; rfl) : XB M X e σ F H c := by
  refine ⟨fun F1 H1 g Q q => ?_⟩
  refine WT.of (pt_val WE.pe he) ?_
  refine h.run F1 H1 g _ fun v F' H' g' r => ?_
  cases r
  exact ⟨c, rfl, q F' H' g'⟩
theorem b_not {c : Bool} (h : XB M X e σ F H c) : XB M X (.UnaryOp .Not e pos) σ F H (!c) := by
  refine ⟨fun F1 H1 g Q q => ?_⟩
  refine WT.of (pt_not WT.pt) ?_
  exact h.run F1 H1 g _ fun F' H' g' => q F' H' g'
theorem XW.xb {c : Bool} (h : XW M X e σ F H c) : XB M X e σ F H c := ⟨fun F1 H1 g Q q => ⟨fun pins s I => (h.run F1 H1 g Q q).run _ pins s I⟩⟩
theorem w_and1 {c : Bool} (h : XB M X a σ F H c) : XW M X (.BoolOp .And [a] pos) σ F H c := by
  refine ⟨fun F1 H1 g Q q => ?_⟩
  exact WW.of (pw_and1 WT.pt) (h.run F1 H1 g _ fun F' H' g' => q F' H' g')
theorem w_or1 {c : Bool} (h : XB M X a σ F H c) : XW M X (.BoolOp .Or [a] pos) σ F H c := by
  refine ⟨fun F1 H1 g Q q => ?_⟩
  exact WW.of (pw_or1 WT.pt) (h.run F1 H1 g _ fun F' H' g' => q F' H' g')
theorem w_and {c c' : Bool} {rest : List Expr} (h : XB M X a σ F H c) (h' : c = true → XW M X (.BoolOp .And (b :: rest) pos) σ F H c') : XW M X (.BoolOp .And (a :: b :: rest) pos) σ F H (c && c') := by
  refine ⟨fun F1 H1 g Q q => ?_⟩
  refine WW.of (pw_and WT.pt WW.pw) ?_
  refine h.run F1 H1 g _ fun F2 H2 g2 => ?_
  cases c with
  | true =>
    show WW X _ σ H2 Q
    exact (h' rfl).run F2 H2 (g.trans g2) _ fun F' H' g' => q F' H' (g2.trans g')
  | false =>
    show Q false H2
    exact q F2 H2 g2
theorem w_or {c c' : Bool} {rest : List Expr} (h : XB M X a σ F H c) (h' : c = false → XW M X (.BoolOp .Or (b :: rest) pos) σ F H c') : XW M X (.BoolOp .Or (a :: b :: rest) pos) σ F H (c || c') := by
  refine ⟨fun F1 H1 g Q q => ?_⟩
  refine WW.of (pw_or WT.pt WW.pw) ?_
  refine h.run F1 H1 g _ fun F2 H2 g2 => ?_
  cases c with
  | true =>
    show Q true H2
    exact q F2 H2 g2
  | false =>
    show WW X _ σ H2 Q
    exact (h' rfl).run F2 H2 (g.trans g2) _ fun F' H' g' => q F' H' (g2.trans g')
/-- and, or, not as values -/
theorem v_one {op : BoolOp} (h : XD M X a σ F H d) : XD M X (.BoolOp op [a] pos) σ F H d := ⟨fun F1 H1 g Q q => WE.of (pe_one WE.pe) (h.run F1 H1 g Q q)⟩
theorem v_and {c c' : Bool} {rest : List Expr} (h : XD M X a σ F H (.bool c)) (h' : c = true → XD M X (.BoolOp .And (b :: rest) pos) σ F H (.bool c')) : XD M X (.BoolOp .And (a :: b :: rest) pos) σ F H (.bool (c && c')) := by
  refine ⟨fun F1 H1 g Q q => ?_⟩
  refine WE.of (pe_and WE.pe WE.pe) ?_
  refine h.run F1 H1 g _ fun v F2 H2 g2 r => ?_
  cases r
  refine ⟨c, rfl, ?_⟩
  cases c with
  | true =>
    show WE X _ σ H2 Q
    exact (h' rfl).run F2 H2 (g.trans g2) _ fun v F' H' g' r' => q v F' H' (g2.trans g') r'
  | false =>
    show Q (.bl false) H2
    exact q _ F2 H2 g2 (.bl _)
theorem v_or {c c' : Bool} {rest : List Expr} (h : XD M X a σ F H (.bool c)) (h' : c = false → XD M X (.BoolOp .Or (b :: rest) pos) σ F H (.bool c')) : XD M X (.BoolOp .Or (a :: b :: rest) pos) σ F H (.bool (c || c')) := by
  refine ⟨fun F1 H1 g Q q => ?_⟩
  refine WE.of (pe_or WE.pe WE.pe) ?_
  refine h.run F1 H1 g _ fun v F2 H2 g2 r => ?_
  cases r
  refine ⟨c, rfl, ?_⟩
  cases c with
  | true =>
    show Q (.bl true) H2
    exact q _ F2 H2 g2 (.bl _)
  | false =>
    show WE X _ σ H2 Q
    exact (h' rfl).run F2 H2 (g.trans g2) _ fun v F' H' g' r' => q v F' H' (g2.trans g') r'
theorem v_not {c : Bool} (h : XD M X a σ F H (.bool c)) : XD M X (.UnaryOp .Not a pos) σ F H (.bool (!c)) := by
  refine ⟨fun F1 H1 g Q q => ?_⟩
  refine WE.of (pe_not WE.pe) ?_
  refine h.run F1 H1 g _ fun v F2 H2 g2 r => ?_
  cases r
  exact ⟨c, rfl, q _ F2 H2 g2 (.bl _)⟩

/-! ### arguments, tuples, lists -/
theorem a_nil : XA M X [] σ F H [] := ⟨fun F1 H1 g Q q => WA.of pa_nil (q [] F1 H1 (Grow.refl g.le) .nil)⟩
theorem a_cons (h : XD M X e σ F H d) (hr : XA M X es σ F H ds) (hs : starEach (e :: es) X.env = (false, eval e X.env) :: starEach es X.env := by rfl) : XA M X (e :: es) σ F H (d :: ds) := by
  refine ⟨fun F1 H1 g Q q => ?_⟩
  refine WA.of (pa_cons WE.pe WA.pa hs) ?_
  refine h.run F1 H1 g _ fun v F2 H2 g2 r2 => ?_
  refine hr.run F2 H2 (g.trans g2) _ fun vs F3 H3 g3 r3 => ?_
  exact q _ F3 H3 (g2.trans g3) (.cons (r2.mono g3.ex) r3)
theorem x_tup {c : Nat} (h : XA M X es σ F H ds) (hz : ds.length ≤ 100000 := by decide) : XD M X (.Tuple es c pos) σ F H (.tuple ds) := by
  refine ⟨fun F1 H1 g Q q => ?_⟩
  refine WE.of (pe_tup WA.pa) ?_
  refine h.run F1 H1 g _ fun vs F2 H2 g2 r2 => ⟨?_, fun p hp => ?_⟩
  · rw [r2.len]
    exact Nat.le_trans hz (by decide)
  · have gA : Grow F2 H2 (upd F2 p (.tup vs)) (upd H2 p (.tup vs)) := Grow.add g2.le hp
    exact q _ _ _ (g2.trans gA) (.tup (SqT.of upd_same) (r2.mono gA.ex))
theorem x_lst (h : XA M X es σ F H ds) (hz : ds.length ≤ 100000 := by decide) : XO M X (.List es pos) σ F H ds := by
  refine ⟨fun F1 H1 g Q q => ?_⟩
  refine WE.of (pe_lst WA.pa) ?_
  refine h.run F1 H1 g _ fun vs F2 H2 g2 r2 => ⟨?_, fun p hp => ?_⟩
  · rw [r2.len]
    exact Nat.le_trans hz (by decide)
  · exact q p vs F2 _ (g2.trans (Grow.own g2.le hp)) (g2.le.free hp) (g2.kp.free hp) upd_same r2

/-! ### items -/
theorem x_ixT (o : Ok0 M X N sc) (ha : XD M X a σ F H (.tuple ds)) (hb : XD M X b σ F H (.int i)) (hd : atI ds i = some d) (hp : PlainIx b := by exact fun _ _ => rfl) : XD M X (.Subscript a b pos) σ F H d := by
  refine ⟨fun F1 H1 g Q q => ?_⟩
  refine WE.of (pe_ix ix_tup WE.pe WE.pe hp) ?_
  refine ha.run F1 H1 g _ fun x F2 H2 g2 r2 => ?_
  refine hb.run F2 H2 (g.trans g2) _ fun y F3 H3 g3 r3 => ?_
  cases r3
  cases r2 with
  | tup h s =>
    unfold atI at hd
    cases e : ixN ds.length i with
    | none =>
      rw [e] at hd
      cases hd
    | some j =>
      rw [e] at hd
      obtain ⟨v, e1, r⟩ := s.get hd
      refine ⟨_, _, i, v, rfl, rfl, by rw [o.eK]; exact sqt_mono (g3.ex.trans g3.le) h, ?_, q v F3 H3 (g2.trans g3) (r.mono g3.ex)⟩
      unfold atI
      rw [s.len, e]
      exact e1
theorem x_ixL (o : Ok0 M X N sc) (ha : XD M X a σ F H (.list ds)) (hb : XD M X b σ F H (.int i)) (hd : atI ds i = some d) (hp : PlainIx b := by exact fun _ _ => rfl) : XD M X (.Subscript a b pos) σ F H d := by
  refine ⟨fun F1 H1 g Q q => ?_⟩
  refine WE.of (pe_ix ix_list WE.pe WE.pe hp) ?_
  refine ha.run F1 H1 g _ fun x F2 H2 g2 r2 => ?_
  refine hb.run F2 H2 (g.trans g2) _ fun y F3 H3 g3 r3 => ?_
  cases r3
  cases r2 with
  | lst h s =>
    unfold atI at hd
    cases e : ixN ds.length i with
    | none =>
      rw [e] at hd
      cases hd
    | some j =>
      rw [e] at hd
      obtain ⟨v, e1, r⟩ := s.get hd
      refine ⟨_, _, i, v, rfl, rfl, by rw [o.eK]; exact SqL.of (g3.base _ _ h), ?_, q v F3 H3 (g2.trans g3) (r.mono g3.ex)⟩
      unfold atI
      rw [s.len, e]
      exact e1
theorem x_ixS {z : Str} {c : Nat} (ha : XD M X a σ F H (.str z)) (hb : XD M X b σ F H (.int i)) (hz : z.length ≤ 100000) (hd : atI z.cps.toList i = some c) (hp : PlainIx b := by exact fun _ _ => rfl) : XD M X (.Subscript a b pos) σ F H (.str ⟨#[c]⟩) := by
  refine ⟨fun F1 H1 g Q q => ?_⟩
  refine WE.of (pe_ix ix_str WE.pe WE.pe hp) ?_
  refine ha.run F1 H1 g _ fun x F2 H2 g2 r2 => ?_
  refine hb.run F2 H2 (g.trans g2) _ fun y F3 H3 g3 r3 => ?_
  cases r3
  cases r2
  exact ⟨z, i, c, rfl, rfl, Nat.le_trans hz (by decide), hd, q _ F3 H3 (g2.trans g3) (.str _)⟩
end

/-! ### statements -/
section
variable {M : Md} {X : Cx} {N : List Str} {sc : Scope} {k : Nat} {σ : L2.St} {env : List (Option PyData)} {F H : Hp} {d : PyData} {ds : List PyData} {e : Expr} {st : Stmt} {rest body orelse : List Stmt} {D : Ends} {pos p : Pos}
theorem s_nil (h : D.nx σ H) : WS X [] D σ H := WS.of pss_nil h
theorem s_cons (h : W1 X st { D with nx := fun σ' H' => WS X rest D σ' H' } σ H) : WS X (st :: rest) D σ H := WS.of (pss_cons W1.ps WS.ps) h
theorem s_one (h : W1 X st D σ H) : WS X [st] D σ H := WS.of (pss_one W1.ps) h
/-- a cut: what follows is shown once -/
theorem s_cut (Mid : L2.St → Hp → Prop) (h : W1 X st { D with nx := Mid } σ H) (h2 : ∀ σ' H', Mid σ' H' → WS X rest D σ' H') : WS X (st :: rest) D σ H := by
  refine s_cons ⟨fun pins s I => thn (h.run pins s I) fun f s1 q => ?_⟩
  cases f with
  | next =>
    obtain ⟨σ', H', I', m⟩ := q
    exact ⟨σ', H', I', h2 σ' H' m⟩
  | brk => exact q
  | cont => exact q
  | ret u => exact q
theorem s_ret (h : XD M X e σ F H d) (le : Same F H) (kk : ∀ v F' H', Grow F H F' H' → Dn M.K F' v d → D.rt v H') : W1 X (.Return (some e) pos) D σ H :=
  W1.of (ps_ret WE.pe) (h.run F H (Grow.refl le) _ kk)
theorem s_retO (h : XO M X e σ F H ds) (le : Same F H) (kk : ∀ p vs F' H', Grow F H F' H' → F' p = none → H p = none → H' p = some (.lst vs) → Dns M.K F' vs ds → D.rt (.ref p) H') : W1 X (.Return (some e) pos) D σ H :=
  W1.of (ps_ret WE.pe) (h.run F H (Grow.refl le) _ kk)
def locB (sc : Scope) (x : Str) : Bool := match sc.names.lookup x with
  | some .local => true
  | some .cell => true
  | _ => false
theorem loc_of {x : Str} (h : locB sc x = true) : L2.Loc sc x := by
  unfold locB at h
  unfold L2.Loc
  split at h
  · rename_i e; exact .inl e
  · rename_i e; exact .inr e
  · cases h
theorem s_setW (o : Ok0 M X N sc) (fs : Fs X) (i : Nat) {x : Str} (h : WE X e σ H fun v H' => D.nx (σ.set i (some v)) H') (hN : N[i]? = some x := by rfl) (hl : locB sc x = true := by decide +kernel)
    (hs : swapsWith e (some (.Name x p)) pos.line X.env = pure false := by rfl) : W1 X (.Assign [.Name x p] e pos) D σ H := by
  have hx : L2.Loc X.env.scope x := by
    rw [o.eS]
    exact loc_of hl
  exact W1.of (ps_set (by rw [o.eN]; exact o.nd) (by rw [o.eN]; exact hN) hx WE.pe hs (.inl (fs.fn x))) h
theorem s_set (o : Ok0 M X N sc) (fs : Fs X) (i : Nat) {x : Str} (h : XD M X e σ F H d) (le : Same F H) (kk : ∀ v F' H', Grow F H F' H' → Dn M.K F' v d → D.nx (σ.set i (some v)) H') (hN : N[i]? = some x := by rfl) (hl : locB sc x = true := by decide +kernel)
    (hs : swapsWith e (some (.Name x p)) pos.line X.env = pure false := by rfl) : W1 X (.Assign [.Name x p] e pos) D σ H :=
  s_setW o fs i (h.run F H (Grow.refl le) _ kk) hN hl hs
theorem s_setO (o : Ok0 M X N sc) (fs : Fs X) (i : Nat) {x : Str} (h : XO M X e σ F H ds) (le : Same F H) (kk : ∀ p vs F' H', Grow F H F' H' → F' p = none → H p = none → H' p = some (.lst vs) → Dns M.K F' vs ds → D.nx (σ.set i (some (.ref p))) H')
    (hN : N[i]? = some x := by rfl) (hl : locB sc x = true := by decide +kernel) (hs : swapsWith e (some (.Name x p)) pos.line X.env = pure false := by rfl) : W1 X (.Assign [.Name x p] e pos) D σ H :=
  s_setW o fs i (h.run F H (Grow.refl le) _ kk) hN hl hs
theorem s_if {c : Bool} (h : XB M X e σ F H c) (le : Same F H) (ht : c = true → ∀ F' H', Grow F H F' H' → WS X body D σ H') (hf : c = false → ∀ F' H', Grow F H F' H' → WS X orelse D σ H') : W1 X (.If e body orelse pos) D σ H := by
  refine W1.of (ps_if WT.pt WS.ps WS.ps) ?_
  refine h.run F H (Grow.refl le) _ fun F' H' g => ?_
  cases c with
  | true => exact ht rfl F' H' g
  | false => exact hf rfl F' H' g
theorem s_expr (h : WE X e σ H fun _ H' => D.nx σ H') (hs : swapsWith e none pos.line X.env = pure false := by rfl) : W1 X (.Expr e pos) D σ H := W1.of (ps_expr WE.pe hs) h
end
end Lay

/-! LayD: dicts whose keys are tuples of any depth: what stands in the heap. -/
namespace Lay
open PySem PySem.Spec L2
mutual
def keyOf : PyData → NestedKey
  | .none => .none
  | .bool b => .num (if b = true then 1 else 0)
  | .int i => .num i
  | .str x => .text x
  | .tuple ds => .tup (keysOf ds)
  | .list _ => .none
  | .dict _ => .none
def keysOf : List PyData → List NestedKey
  | [] => []
  | d :: ds => keyOf d :: keysOf ds
end
mutual
/-- keys of whole numbers, tuples of such -/
def keyB : PyData → Bool
  | .int _ => true
  | .tuple ds => keysB ds
  | .none => false
  | .bool _ => false
  | .str _ => false
  | .list _ => false
  | .dict _ => false
def keysB : List PyData → Bool
  | [] => true
  | d :: ds => keyB d && keysB ds
end
mutual
theorem keyOf_inj : ∀ {a b : PyData}, keyB a = true → keyB b = true → keyOf a = keyOf b → a = b
  | .int i, .int j, _, _, h => by
    have : i = j := by injection h
    rw [this]
  | .int i, .tuple ds, _, _, h => by cases h
  | .tuple ds, .int i, _, _, h => by cases h
  | .tuple as, .tuple bs, ha, hb, h => by
    have h' : keysOf as = keysOf bs := by injection h
    rw [keysOf_inj (show keysB as = true from ha) (show keysB bs = true from hb) h']
  | .none, _, ha, _, _ => by cases ha
  | .bool _, _, ha, _, _ => by cases ha
  | .str _, _, ha, _, _ => by cases ha
  | .list _, _, ha, _, _ => by cases ha
  | .dict _, _, ha, _, _ => by cases ha
  | .int _, .none, _, hb, _ => by cases hb
  | .int _, .bool _, _, hb, _ => by cases hb
  | .int _, .str _, _, hb, _ => by cases hb
  | .int _, .list _, _, hb, _ => by cases hb
  | .int _, .dict _, _, hb, _ => by cases hb
  | .tuple _, .none, _, hb, _ => by cases hb
  | .tuple _, .bool _, _, hb, _ => by cases hb
  | .tuple _, .str _, _, hb, _ => by cases hb
  | .tuple _, .list _, _, hb, _ => by cases hb
  | .tuple _, .dict _, _, hb, _ => by cases hb
theorem keysOf_inj : ∀ {a b : List PyData}, keysB a = true → keysB b = true → keysOf a = keysOf b → a = b
  | [], [], _, _, _ => rfl
  | [], _ :: _, _, _, h => by cases h
  | _ :: _, [], _, _, h => by cases h
  | x :: a, y :: b, ha, hb, h => by
    have ha' : (keyB x && keysB a) = true := ha
    have hb' : (keyB y && keysB b) = true := hb
    rw [Bool.and_eq_true] at ha' hb'
    have h1 : keyOf x = keyOf y ∧ keysOf a = keysOf b := by
      constructor <;> injection h
    rw [keyOf_inj ha'.1 hb'.1 h1.1, keysOf_inj ha'.2 hb'.2 h1.2]
end
section
variable {X : Cx} {pins : List (Addr × Obj)} {σ : L2.St} {H F : Hp} {s : Shared}
mutual
theorem key_is (I : Inv X pins σ H s) (le : Same F H) : ∀ {d : PyData} {v : V} {u : Value}, keyB d = true → Dn X.K F v d → RelV v u → NestedIs s.heap (keyOf d) u
  | .int i, _, _, _, h, r => by
    cases h
    obtain ⟨t, rfl⟩ := r
    exact .int i t
  | .tuple ds, _, _, hk, h, r => by
    cases h with
    | tup ht hs =>
      cases r
      obtain ⟨its, rv, ⟨o, ho, hc, n, hd⟩, hz⟩ := I.tuple (sqt_mono le ht)
      exact .tup ho hc hd (by
        rw [List.toList_toArray]
        exact keys_are I le (show keysB ds = true from hk) hs rv)
  | .none, _, _, hk, _, _ => by cases hk
  | .bool _, _, _, hk, _, _ => by cases hk
  | .str _, _, _, hk, _, _ => by cases hk
  | .list _, _, _, hk, _, _ => by cases hk
  | .dict _, _, _, hk, _, _ => by cases hk
theorem keys_are (I : Inv X pins σ H s) (le : Same F H) : ∀ {ds : List PyData} {vs : List V} {us : List Value}, keysB ds = true → Dns X.K F vs ds → Vals vs us → NestedAll s.heap (keysOf ds) us
  | [], _, _, _, h, r => by
    cases h
    cases r
    exact .nil
  | d :: ds, _, _, hk, h, r => by
    have hk' : (keyB d && keysB ds) = true := hk
    rw [Bool.and_eq_true] at hk'
    cases h with
    | cons h1 h2 =>
      cases r with
      | cons r1 r2 => exact .cons (key_is I le hk'.1 h1 r1) (keys_are I le hk'.2 h2 r2)
end
end
/-- one object, as it is -/
def obO (a : Addr) (o : Obj) : HO := .ext fun h => h.get? a = some o
theorem ob_ok {P : Program} {w : World} {H : Hp} {h : Heap} {a : Addr} {o : Obj} (e : h.get? a = some o) : ObjOk P w H h a (obO a o) := ⟨e, ⟨o, e⟩, fun _ _ p k => k o p⟩
theorem ob_at {X : Cx} {pins : List (Addr × Obj)} {σ : L2.St} {H : Hp} {s : Shared} {a : Addr} {o : Obj} (I : Inv X pins σ H s) (e : H a = some (obO a o)) : s.heap.get? a = some o := (I.hok a _ e).1
abbrev KX := NestedKey × Addr × Value
/-- the object is a dict of these entries -/
def DObj (w : World) (o : Obj) (xs : List KX) : Prop := o.ExactDict ∧ (∃ es ep, o.data = .dict es ep ∧ es.toList = xs.map fun x => (⟨x.1.hash w, .ref x.2.1, x.2.2⟩ : DictEntry)) ∧ (xs.map (·.1)).Nodup
/-- the entries stand for these data -/
inductive Ens (K : PySem.W.Frag) (F : Hp) : List KX → List (PyData × PyData) → Prop
  | nil : Ens K F [] []
  | cons {x : KX} {p : PyData × PyData} {xs : List KX} {m : List (PyData × PyData)} {v : V} : x.1 = keyOf p.1 → keyB p.1 = true → (keyOf p.1).depth ≤ 8 → Dn K F (.ref x.2.1) p.1 → RelV v x.2.2 → Dn K F v p.2 → Ens K F xs m → Ens K F (x :: xs) (p :: m)
theorem Ens.mono {K : PySem.W.Frag} {F G : Hp} (e : Same F G) : ∀ {xs : List KX} {m : List (PyData × PyData)}, Ens K F xs m → Ens K G xs m
  | _, _, .nil => .nil
  | _, _, .cons h1 h2 h3 h4 h5 h6 t => .cons h1 h2 h3 (h4.mono e) h5 (h6.mono e) (Ens.mono e t)
theorem Ens.len {K : PySem.W.Frag} {F : Hp} : ∀ {xs : List KX} {m : List (PyData × PyData)}, Ens K F xs m → xs.length = m.length
  | _, _, .nil => rfl
  | _, _, .cons _ _ _ _ _ _ t => congrArg (· + 1) (Ens.len t)
/-- at a stands the dict m, its keys and values in F -/
structure Dk (K : PySem.W.Frag) (w : World) (F H : Hp) (a : Addr) (m : List (PyData × PyData)) : Prop where
  ex : ∃ o xs, H a = some (obO a o) ∧ DObj w o xs ∧ Ens K F xs m
  low : (a == sysModules) = false
theorem Dk.grow {K : PySem.W.Frag} {w : World} {F H G J : Hp} {a : Addr} {m : List (PyData × PyData)} (d : Dk K w F H a m) (g : Grow F H G J) : Dk K w G J a m := by
  obtain ⟨o, xs, h1, h2, h3⟩ := d.ex
  exact ⟨⟨o, xs, g.kp _ _ h1, h2, h3.mono g.ex⟩, d.low⟩
theorem Dk.some {K : PySem.W.Frag} {w : World} {F H : Hp} {a : Addr} {m : List (PyData × PyData)} (d : Dk K w F H a m) : ∃ u, H a = some u := by
  obtain ⟨o, xs, h1, _⟩ := d.ex
  exact ⟨_, h1⟩
end Lay

/-! Lay2: calls and promises, built-ins, comprehensions, loops. -/
namespace Lay
open PySem L2

/-! ### promises -/
inductive Out where
  | val (d : PyData) | own (ds : List PyData) | err (C : Addr)
  /-- a new dict, some one that P tells of -/
  | dct (w : World) (P : List (PyData × PyData) → Prop)
  /-- a new pair of a new list and a datum -/
  | pair (ds : List PyData) (d : PyData)
def Done (K : PySem.W.Frag) (F H : Hp) (Q : VK) (E : XK) : Out → Prop
  | .val d => ∀ v F' H', Grow F H F' H' → Dn K F' v d → Q v H'
  | .own ds => ∀ p vs F' H', Grow F H F' H' → F' p = none → H p = none → H' p = some (.lst vs) → Dns K F' vs ds → Q (.ref p) H'
  | .err C => ∀ F' H', Grow F H F' H' → E (.ref C) none H'
  | .dct w P => ∀ m p F' H', P m → Grow F H F' H' → F' p = none → H p = none → Dk K w F' H' p m → Q (.ref p) H'
  | .pair ds d => ∀ p l us v F' H', Grow F H F' H' → F' p = none → H p = none → F' l = none → H l = none → p ≠ l → H' p = some (.tup [.ref l, v]) → H' l = some (.lst us) → Dns K F' us ds → Dn K F' v d → Q (.ref p) H'
theorem Done.grow {K : PySem.W.Frag} {F H G J : Hp} {Q : VK} {E : XK} {r : Out} (h : Done K F H Q E r) (g : Grow F H G J) : Done K G J Q E r := by
  cases r with
  | val d => exact fun v F' H' g' r => h v F' H' (g.trans g') r
  | own ds => exact fun p vs F' H' g' h1 h2 h3 r => h p vs F' H' (g.trans g') h1 (g.kp.free h2) h3 r
  | err C => exact fun F' H' g' => h F' H' (g.trans g')
  | dct w P => exact fun m p F' H' hm g' h1 h2 h3 => h m p F' H' hm (g.trans g') h1 (g.kp.free h2) h3
  | pair ds d => exact fun p l us v F' H' g' h1 h2 h3 h4 => h p l us v F' H' (g.trans g') h1 (g.kp.free h2) h3 (g.kp.free h4)
/-- a def's promise: R tells what comes of the arguments -/
def spG (K : PySem.W.Frag) (R : List PyData → Out → Prop) : Sp := fun vs H Q E => ∃ F ds r, Same F H ∧ Dns K F vs ds ∧ R ds r ∧ Done K F H Q E r
structure Fc (M : Md) (C : CXT) (x : Str) (k : Nat) (sp : Sp) : Prop where
  ex : ∃ (f : Addr) (fd : FuncData) (ps : List Str), M.mg x = some (.ref f) ∧ PySem.W.keepIn M.K (.ref f) = true ∧ Binds M.K fd ps [] ∧ FnOk M.P M.w M.K M.mg M.base C k f fd ps sp

section
variable {M : Md} {X : Cx} {N : List Str} {sc : Scope} {k j : Nat} {σ : L2.St} {F H : Hp} {d : PyData} {ds es' : List PyData} {e : Expr} {es : List Expr} {pos p : Pos} {x : Str} {C : CXT} {sp : Sp} {R : List PyData → Out → Prop} {Q : VK} {E : XK}
theorem we_call (o : Ok M X N sc k) (fc : Fc M C x j sp) (hj : j ≤ k) (hx : Passes C X E) (h : WA X (e :: es) σ H fun vs H1 => sp vs H1 Q E) (hg : sc.names.lookup x = some .globalImplicit := by decide +kernel)
    (hdb : (x == ("__debug__" : Str)) = false := by decide +kernel) (he : starEach (e :: es) X.env = (false, eval e X.env) :: starEach es X.env := by rfl) (hpl : (backTo pos (starEach es X.env)).any (·.1) = false := by rfl) :
    WE X (.Call (.Name x p) (e :: es) [] pos) σ H Q := by
  obtain ⟨f, fd, ps, gm, kp, bd, ok⟩ := fc.ex
  rw [← o.eP, ← o.eW, ← o.eK, ← o.eG, ← o.eB] at ok
  refine WE.of (pe_call (dvs := []) ok (o.room.mono hj) (gl_of o.toOk0 hg) (by rw [o.eG]; exact gm) (by rw [o.eK]; exact kp) (by rw [o.eK]; exact bd) .nil hx WA.pa hdb he hpl) ?_
  exact ⟨fun pos' pins s I => thn (h.run pos' pins s I) fun us s1 ⟨vs, H1, I1, r, q⟩ => ⟨vs, H1, I1, r, by
    show sp (vs ++ []) H1 Q E
    rw [List.append_nil]
    exact q⟩⟩
theorem we_call0 (o : Ok M X N sc k) (fc : Fc M C x j sp) (hj : j ≤ k) (hx : Passes C X E) (h : sp [] H Q E) (hg : sc.names.lookup x = some .globalImplicit := by decide +kernel)
    (hdb : (x == ("__debug__" : Str)) = false := by decide +kernel) : WE X (.Call (.Name x p) [] [] pos) σ H Q := by
  obtain ⟨f, fd, ps, gm, kp, bd, ok⟩ := fc.ex
  rw [← o.eP, ← o.eW, ← o.eK, ← o.eG, ← o.eB] at ok
  exact WE.of (pe_call0 (dvs := []) ok (o.room.mono hj) (gl_of o.toOk0 hg) (by rw [o.eG]; exact gm) (by rw [o.eK]; exact kp) (by rw [o.eK]; exact bd) .nil hx hdb) h
/-- what a promise's own wish of errors says -/
def Pz (M : Md) (C : CXT) : Prop := ∀ X : Cx, X.prog = M.P → X.w = M.w → Passes C X E0
theorem pz0 : Pz M CX0 := fun X _ _ => pass0
theorem pzX : Pz M (L2.CX M.P M.w) := fun X h1 h2 => by
  rw [← h1, ← h2]
  exact passL
theorem x_call (o : Ok M X N sc k) (fc : Fc M C x j (spG M.K R)) (pz : Pz M C) (ha : XA M X (e :: es) σ F H ds) (r : R ds (.val d)) (hj : j ≤ k := by decide) (hg : sc.names.lookup x = some .globalImplicit := by decide +kernel)
    (hdb : (x == ("__debug__" : Str)) = false := by decide +kernel) (he : starEach (e :: es) X.env = (false, eval e X.env) :: starEach es X.env := by rfl) (hpl : (backTo pos (starEach es X.env)).any (·.1) = false := by rfl) :
    XD M X (.Call (.Name x p) (e :: es) [] pos) σ F H d := ⟨fun F1 H1 g Q q =>
  we_call o fc hj (pz X o.eP o.eW) (ha.run F1 H1 g _ fun vs F2 H2 g2 r2 => ⟨F2, ds, .val d, g2.le, r2, r, fun v F' H' g' r' => q v F' H' (g2.trans g') r'⟩) hg hdb he hpl⟩
theorem o_call (o : Ok M X N sc k) (fc : Fc M C x j (spG M.K R)) (pz : Pz M C) (ha : XA M X (e :: es) σ F H ds) (r : R ds (.own es')) (hj : j ≤ k := by decide) (hg : sc.names.lookup x = some .globalImplicit := by decide +kernel)
    (hdb : (x == ("__debug__" : Str)) = false := by decide +kernel) (he : starEach (e :: es) X.env = (false, eval e X.env) :: starEach es X.env := by rfl) (hpl : (backTo pos (starEach es X.env)).any (·.1) = false := by rfl) :
    XO M X (.Call (.Name x p) (e :: es) [] pos) σ F H es' := ⟨fun F1 H1 g Q q =>
  we_call o fc hj (pz X o.eP o.eW) (ha.run F1 H1 g _ fun vs F2 H2 g2 r2 => ⟨F2, ds, .own es', g2.le, r2, r, fun l vs' F' H' g' h1 h2 h3 r' => q l vs' F' H' (g2.trans g') h1 (g2.kp.free h2) h3 r'⟩) hg hdb he hpl⟩
theorem o_call0 (o : Ok M X N sc k) (fc : Fc M C x j (spG M.K R)) (pz : Pz M C) (r : R [] (.own es')) (hj : j ≤ k := by decide) (hg : sc.names.lookup x = some .globalImplicit := by decide +kernel)
    (hdb : (x == ("__debug__" : Str)) = false := by decide +kernel) : XO M X (.Call (.Name x p) [] [] pos) σ F H es' := ⟨fun F1 H1 g Q q =>
  we_call0 o fc hj (pz X o.eP o.eW) ⟨F1, [], .own es', g.le, .nil, r, q⟩ hg hdb⟩

/-! ### built-ins by name -/
theorem x_callB {id : String} {r : List V → Hp → VK → Prop} (o : Ok0 M X N sc) (hc : CallR X (.builtin id) r) (hm : M.mg x = none) (hv : bootBuiltins x = some (.builtin id)) (ha : XA M X (e :: es) σ F H ds)
    (hr : ∀ vs F1 H1, Grow F H F1 H1 → Dns M.K F1 vs ds → ∀ Q : VK, (∀ v F' H', Grow F1 H1 F' H' → Dn M.K F' v d → Q v H') → r vs H1 Q)
    (hg : sc.names.lookup x = some .globalImplicit := by decide +kernel) (hn : x ≠ "__name__" := by decide +kernel) (hdb : (x == ("__debug__" : Str)) = false := by decide +kernel)
    (he : starEach (e :: es) X.env = (false, eval e X.env) :: starEach es X.env := by rfl) (hpl : (backTo pos (starEach es X.env)).any (·.1) = false := by rfl) : XD M X (.Call (.Name x p) (e :: es) [] pos) σ F H d := ⟨fun F1 H1 g Q q =>
  WE.of (pe_callB hc (gl_of o hg) (by rw [o.eG]; exact hm) hv WA.pa hn hdb he hpl) (ha.run F1 H1 g _ fun vs F2 H2 g2 r2 => hr vs F2 H2 (g.trans g2) r2 Q fun v F' H' g' r' => q v F' H' (g2.trans g') r')⟩
theorem x_callTy {id : String} {r : List V → Hp → VK → Prop} (o : Ok0 M X N sc) (hc : CallR X (.type id) r) (hm : M.mg x = none) (hv : bootBuiltins x = some (.type id)) (ha : XA M X (e :: es) σ F H ds)
    (hr : ∀ vs F1 H1, Grow F H F1 H1 → Dns M.K F1 vs ds → ∀ Q : VK, (∀ v F' H', Grow F1 H1 F' H' → Dn M.K F' v d → Q v H') → r vs H1 Q)
    (hg : sc.names.lookup x = some .globalImplicit := by decide +kernel) (hn : x ≠ "__name__" := by decide +kernel) (hdb : (x == ("__debug__" : Str)) = false := by decide +kernel)
    (he : starEach (e :: es) X.env = (false, eval e X.env) :: starEach es X.env := by rfl) (hpl : (backTo pos (starEach es X.env)).any (·.1) = false := by rfl) : XD M X (.Call (.Name x p) (e :: es) [] pos) σ F H d := ⟨fun F1 H1 g Q q =>
  WE.of (pe_callTy hc (gl_of o hg) (by rw [o.eG]; exact hm) hv WA.pa hn hdb he hpl) (ha.run F1 H1 g _ fun vs F2 H2 g2 r2 => hr vs F2 H2 (g.trans g2) r2 Q fun v F' H' g' r' => q v F' H' (g2.trans g') r')⟩
theorem o_callB {id : String} {r : List V → Hp → VK → Prop} (o : Ok0 M X N sc) (hc : CallR X (.builtin id) r) (hm : M.mg x = none) (hv : bootBuiltins x = some (.builtin id)) (ha : XA M X (e :: es) σ F H ds)
    (hr : ∀ vs F1 H1, Grow F H F1 H1 → Dns M.K F1 vs ds → ∀ Q : VK, (∀ l vs F' H', Grow F1 H1 F' H' → F' l = none → H1 l = none → H' l = some (.lst vs) → Dns M.K F' vs es' → Q (.ref l) H') → r vs H1 Q)
    (hg : sc.names.lookup x = some .globalImplicit := by decide +kernel) (hn : x ≠ "__name__" := by decide +kernel) (hdb : (x == ("__debug__" : Str)) = false := by decide +kernel)
    (he : starEach (e :: es) X.env = (false, eval e X.env) :: starEach es X.env := by rfl) (hpl : (backTo pos (starEach es X.env)).any (·.1) = false := by rfl) : XO M X (.Call (.Name x p) (e :: es) [] pos) σ F H es' := ⟨fun F1 H1 g Q q =>
  WE.of (pe_callB hc (gl_of o hg) (by rw [o.eG]; exact hm) hv WA.pa hn hdb he hpl) (ha.run F1 H1 g _ fun vs F2 H2 g2 r2 => hr vs F2 H2 (g.trans g2) r2 Q fun l vs' F' H' g' h1 h2 h3 r' => q l vs' F' H' (g2.trans g') h1 (g2.kp.free h2) h3 r')⟩
/-- one argument, for a look -/
theorem x_callBh {id : String} {d0 : PyData} {r : List V → Hp → VK → Prop} (o : Ok0 M X N sc) (hc : CallR X (.builtin id) r) (hm : M.mg x = none) (hv : bootBuiltins x = some (.builtin id)) (ha : XH M X e σ F H d0)
    (hr : ∀ v F1 H1, Grow F H F1 H1 → Dn M.K H1 v d0 → ∀ Q : VK, (∀ v F' H', Grow F1 H1 F' H' → Dn M.K F' v d → Q v H') → r [v] H1 Q)
    (hg : sc.names.lookup x = some .globalImplicit := by decide +kernel) (hn : x ≠ "__name__" := by decide +kernel) (hdb : (x == ("__debug__" : Str)) = false := by decide +kernel)
    (he : starEach [e] X.env = (false, eval e X.env) :: starEach [] X.env := by rfl) (hpl : (backTo pos (starEach [] X.env)).any (·.1) = false := by rfl) : XD M X (.Call (.Name x p) [e] [] pos) σ F H d := ⟨fun F1 H1 g Q q =>
  WE.of (pe_callB hc (gl_of o hg) (by rw [o.eG]; exact hm) hv (pa_cons WE.pe pa_nil he) hn hdb he hpl) (ha.run F1 H1 g _ fun v F2 H2 g2 r2 => hr v F2 H2 (g.trans g2) r2 Q fun v F' H' g' r' => q v F' H' (g2.trans g') r')⟩
theorem x_len (o : Ok0 M X N sc) (hm : M.mg "len" = none) (ha : XH M X e σ F H (.list ds)) (hg : sc.names.lookup ("len" : Str) = some .globalImplicit := by decide +kernel)
    (he : starEach [e] X.env = (false, eval e X.env) :: starEach [] X.env := by rfl) (hpl : (backTo pos (starEach [] X.env)).any (·.1) = false := by rfl) : XD M X (.Call (.Name "len" p) [e] [] pos) σ F H (.int ds.length) :=
  x_callBh o call_len_seq hm boot_len ha (fun v F1 H1 g r Q q => by
    cases r with
    | lst h s => exact ⟨_, _, rfl, .inl (SqL.of h), by rw [s.len]; exact q _ F1 H1 (Grow.refl g.le) (.int _)⟩) hg (by decide +kernel) (by decide +kernel) he hpl
theorem x_lenT (o : Ok0 M X N sc) (hm : M.mg "len" = none) (ha : XH M X e σ F H (.tuple ds)) (hg : sc.names.lookup ("len" : Str) = some .globalImplicit := by decide +kernel)
    (he : starEach [e] X.env = (false, eval e X.env) :: starEach [] X.env := by rfl) (hpl : (backTo pos (starEach [] X.env)).any (·.1) = false := by rfl) : XD M X (.Call (.Name "len" p) [e] [] pos) σ F H (.int ds.length) :=
  x_callBh o call_len_seq hm boot_len ha (fun v F1 H1 g r Q q => by
    cases r with
    | tup h s => exact ⟨_, _, rfl, .inr (by rw [o.eK]; exact h), by rw [s.len]; exact q _ F1 H1 (Grow.refl g.le) (.int _)⟩) hg (by decide +kernel) (by decide +kernel) he hpl
theorem x_lenScr {ns : List Int} (o : Ok0 M X N sc) (hm : M.mg "len" = none) (ha : XH M X e σ F H (.dict [(.none, .list (ns.map PyData.int))])) (hg : sc.names.lookup ("len" : Str) = some .globalImplicit := by decide +kernel)
    (he : starEach [e] X.env = (false, eval e X.env) :: starEach [] X.env := by rfl) (hpl : (backTo pos (starEach [] X.env)).any (·.1) = false := by rfl) : XD M X (.Call (.Name "len" p) [e] [] pos) σ F H (.int ns.length) :=
  x_callBh o call_len_seq hm boot_len ha (fun v F1 H1 g r Q q => by
    generalize hd : PyData.dict [(.none, .list (ns.map PyData.int))] = d0 at r
    cases r with
    | scr h =>
      rename_i a ms
      have e1 : ms.map PyData.int = ns.map PyData.int := by injection hd with h1; injection h1 with h2 h3; injection h2 with h4 h5; injection h5 with h6; exact h6.symm
      have e2 : ms.length = ns.length := by
        have := congrArg List.length e1
        simpa using this
      exact ⟨_, _, rfl, .inl (by rw [o.eK]; exact h), by rw [List.length_map, e2]; exact q _ F1 H1 (Grow.refl g.le) (.int _)⟩
    | _ => cases hd) hg (by decide +kernel) (by decide +kernel) he hpl
theorem x_lenS {z : Str} (o : Ok0 M X N sc) (hm : M.mg "len" = none) (ha : XH M X e σ F H (.str z)) (hz : z.length ≤ 100000) (hg : sc.names.lookup ("len" : Str) = some .globalImplicit := by decide +kernel)
    (he : starEach [e] X.env = (false, eval e X.env) :: starEach [] X.env := by rfl) (hpl : (backTo pos (starEach [] X.env)).any (·.1) = false := by rfl) : XD M X (.Call (.Name "len" p) [e] [] pos) σ F H (.int z.length) :=
  x_callBh o call_len_str hm boot_len ha (fun v F1 H1 g r Q q => by
    cases r
    exact ⟨_, rfl, Nat.le_trans hz (by decide), q _ F1 H1 (Grow.refl g.le) (.int _)⟩) hg (by decide +kernel) (by decide +kernel) he hpl
/-- an item of the script -/
theorem x_ixScr {a b : Expr} {ns : List Int} {i : Nat} {z : Int} (o : Ok0 M X N sc) (ha : XD M X a σ F H (.dict [(.none, .list (ns.map PyData.int))])) (hb : XD M X b σ F H (.int (i : Int))) (hz : ns[i]? = some z) (hp : PlainIx b := by exact fun _ _ => rfl) :
    XD M X (.Subscript a b pos) σ F H (.int z) := by
  refine ⟨fun F1 H1 g Q q => ?_⟩
  refine WE.of (pe_ix ix_list WE.pe WE.pe hp) ?_
  refine ha.run F1 H1 g _ fun x F2 H2 g2 r2 => ?_
  refine hb.run F2 H2 (g.trans g2) _ fun y F3 H3 g3 r3 => ?_
  cases r3
  generalize hd : PyData.dict [(.none, .list (ns.map PyData.int))] = d0 at r2
  cases r2 with
  | scr h =>
    rename_i c ms
    have e1 : ms.map PyData.int = ns.map PyData.int := by injection hd with h1; injection h1 with h2 h3; injection h2 with h4 h5; injection h5 with h6; exact h6.symm
    have e2 : ms = ns := by
      have := congrArg (List.map fun d : PyData => match d with | .int i => i | _ => 0) e1
      simpa [Function.comp_def] using this
    subst e2
    refine ⟨_, _, _, .int z, rfl, rfl, by rw [o.eK]; exact sql_mono g3.base h, ?_, q _ F3 H3 (g2.trans g3) (.int z)⟩
    exact atI_nat (by rw [List.getElem?_map, hz]; rfl)
  | _ => cases hd
end

/-! ### comprehensions -/
/-- one stands in the block of a comprehension -/
theorem Ok.blk {M : Md} {X : Cx} {N : List Str} {sc : Scope} {k : Nat} (o : Ok M X N sc k) {s0 : Shared} {H0 : Hp} {scope : Scope} {cl : List (Str × Addr)} {C : Addr} {fp : List Addr} :
    Ok M (X.blk s0 H0 scope (compEnvC scope cl C X.env) fp) N (relS scope sc) k where
  eP := o.eP
  eW := o.eW
  eK := o.eK
  eG := o.eG
  eB := o.eB
  eN := o.eN
  eS := by
    rw [← o.eS]
    rfl
  nd := o.nd
  calm := o.calm
  room := o.room
  pass := PassesOwn.never

section
variable {M : Md} {X : Cx} {N : List Str} {sc scope : Scope} {k j : Nat} {σ : L2.St} {F H : Hp} {env : List (Option PyData)} {ds : List PyData} {elt iter : Expr} {pos tp : Pos} {x : Str} {own : List (Str × Nat)} {α : Type}
/-- the readings of a block's test and element, whatever the block's frame -/
structure BE (X : Cx) (scope : Scope) (e : Expr) (σ : L2.St) (H : Hp) (Q : VK) : Prop where
  run : ∀ (s0 : Shared) (H0 : Hp) (C : Addr) (cl : List (Str × Addr)) (fp : List Addr), WE (X.blk s0 H0 scope (compEnvC scope cl C X.env) fp) e σ H Q
structure BT (X : Cx) (scope : Scope) (e : Expr) (σ : L2.St) (H : Hp) (Q : Bool → Hp → Prop) : Prop where
  run : ∀ (s0 : Shared) (H0 : Hp) (C : Addr) (cl : List (Str × Addr)) (fp : List Addr), WT (X.blk s0 H0 scope (compEnvC scope cl C X.env) fp) e σ H Q
theorem BE.pe {e : Expr} (s0 : Shared) (H0 : Hp) (C : Addr) (cl : List (Str × Addr)) (fp : List Addr) : PE (X.blk s0 H0 scope (compEnvC scope cl C X.env) fp) e (BE X scope e) := ⟨fun pins s σ H Q I h => (h.run s0 H0 C cl fp).run pins s I⟩
theorem BT.pt {e : Expr} (s0 : Shared) (H0 : Hp) (C : Addr) (cl : List (Str × Addr)) (fp : List Addr) : PT (X.blk s0 H0 scope (compEnvC scope cl C X.env) fp) e (BT X scope e) := ⟨fun pins s σ H Q I h => (h.run s0 H0 C cl fp).run pins s I⟩
/-- what a turn of the block gives: the test, the element (none where there is no test) -/
structure Blk (M : Md) (X : Cx) (N : List Str) (sc scope : Scope) (k : Nat) (ifs : List Expr) (elt : Expr) (τ : L2.St) (F H : Hp) (b : Bool) (d : PyData) : Prop where
  tst : ∀ c, ifs = [c] → ∀ Y, Ok M Y N (relS scope sc) k → XB M Y c τ F H b
  elt : b = true → ∀ Y, Ok M Y N (relS scope sc) k → XD M Y elt τ F H d
theorem Blk.no {τ : L2.St} {d : PyData} (h : ∀ Y, Ok M Y N (relS scope sc) k → XD M Y elt τ F H d) : Blk M X N sc scope k [] elt τ F H true d := ⟨fun c e => (nomatch e), fun _ => h⟩
theorem Blk.one {τ : L2.St} {c : Expr} {b : Bool} {d : PyData} (ht : ∀ Y, Ok M Y N (relS scope sc) k → XB M Y c τ F H b) (h : b = true → ∀ Y, Ok M Y N (relS scope sc) k → XD M Y elt τ F H d) : Blk M X N sc scope k [c] elt τ F H b d :=
  ⟨fun c' e => by
    cases e
    exact ht, h⟩
def kept (zs : List α) (p : α → Bool) (g : α → PyData) : List PyData := (zs.filter p).map g
theorem kept_snoc (zs : List α) (z : α) (p : α → Bool) (g : α → PyData) : kept (zs ++ [z]) p g = kept zs p g ++ (if p z = true then [g z] else []) := by
  unfold kept
  rw [List.filter_append, List.map_append, List.filter_cons]
  split <;> rfl
theorem kept_len (zs : List α) (p : α → Bool) (g : α → PyData) : (kept zs p g).length ≤ zs.length := by
  unfold kept
  rw [List.length_map]
  exact List.length_filter_le _ _
/-- the new list within the comprehension: what it holds behind the items zs -/
def LcP (K : PySem.W.Frag) (F H : Hp) (D : Addr) (l : List PyData) (H' : Hp) : Prop := ∃ F' vs, Grow F H F' H' ∧ F' D = none ∧ H D = none ∧ H' D = some (.lst vs) ∧ Dns K F' vs l
/-- one turn, by the target's datum -/
theorem lc_turn {ifs : List Expr} {tt : TT} {vs : List Nat} {D : Addr} {l : List PyData} {v : V} {d e : PyData} {b : Bool} {H' : Hp} {ix : Nat} (o : Ok M X N sc k) (htt : (ifs = [] ∧ tt = tYes) ∨ ∃ c, ifs = [c] ∧ tt = BT X scope c) (hj : j ∈ vs)
    (P : LcP M.K F H D l H') (hl : l.length < 100000) (Fv : Same F H → Dn M.K F v d)
    (ht : ∀ F1 H1, Grow F H F1 H1 → Blk M X N sc scope k ifs elt ((wipe σ vs).set j (some v)) F1 H1 b e) (hb : ifs = [] → b = true) (le : Same F H) :
    gName j v (wipe σ vs) H' fun σ2 H2 => wipe σ2 vs = wipe σ vs ∧ tt σ2 H2 fun c H3 => if c = true then BE X scope elt σ2 H3 fun y H4 => ∃ acc, H4 D = some (.lst acc) ∧ acc.length < sizeLine ∧ LcP M.K F H D (l ++ (if b = true then [e] else [])) (upd H4 D (.lst (acc ++ [y]))) else LcP M.K F H D (l ++ (if b = true then [e] else [])) H3 := by
  obtain ⟨F', us, g, fD, hD, jD, r⟩ := P
  refine ⟨wipe_set σ vs hj, ?_⟩
  have T := ht F' H' g
  have elt_ok : b = true → ∀ F3 H3, Grow F' H' F3 H3 → BE X scope elt ((wipe σ vs).set j (some v)) H3 fun y H4 => ∃ acc, H4 D = some (.lst acc) ∧ acc.length < sizeLine ∧ LcP M.K F H D (l ++ (if b = true then [e] else [])) (upd H4 D (.lst (acc ++ [y]))) := by
    intro hb F3 H3 g3
    refine ⟨fun s0 H0 C cl fp => ?_⟩
    refine (T.elt hb _ o.blk).run F3 H3 g3 _ fun y F4 H4 g4 r4 => ?_
    have g34 := g3.trans g4
    have jD4 : H4 D = some (.lst us) := g34.kp D _ jD
    have f4 : F4 D = none := by
      refine g34.new D fD ?_
      rw [jD]
      intro z
      cases z
    refine ⟨us, jD4, ?_, F4, us ++ [y], (g.trans g34).set f4 hD, f4, hD, upd_same, ?_⟩
    · rw [r.len]
      exact Nat.lt_of_lt_of_le hl (by decide)
    · rw [if_pos hb]
      exact (r.mono g34.ex).app (.cons r4 .nil)
  rcases htt with ⟨hi, rfl⟩ | ⟨c, hi, rfl⟩
  · have hb' := hb hi
    show (if true = true then BE X scope elt ((wipe σ vs).set j (some v)) H' (fun y H4 => ∃ acc, H4 D = some (.lst acc) ∧ acc.length < sizeLine ∧ LcP M.K F H D (l ++ (if b = true then [e] else [])) (upd H4 D (.lst (acc ++ [y])))) else LcP M.K F H D (l ++ (if b = true then [e] else [])) H')
    rw [if_pos rfl]
    exact elt_ok hb' F' H' (Grow.refl g.le)
  · refine ⟨fun s0 H0 C cl fp => ?_⟩
    refine (T.tst c hi _ o.blk).run F' H' (Grow.refl g.le) _ fun F3 H3 g3 => ?_
    cases hc : b with
    | true =>
      rw [if_pos rfl]
      have := elt_ok hc F3 H3 g3
      rw [hc] at this
      exact this
    | false =>
      rw [if_neg Bool.false_ne_true, if_neg Bool.false_ne_true, List.append_nil]
      refine ⟨F3, us, g.trans g3, g3.new D fD ?_, hD, g3.kp D _ jD, r.mono g3.ex⟩
      rw [jD]
      intro z
      cases z
theorem take_snoc {β : Type} {l : List β} {i : Nat} {z : β} (h : l[i]? = some z) : l.take (i + 1) = l.take i ++ [z] := by
  rw [List.take_add_one, h]
  rfl
/-- [elt for x in iter if ..], iter a list or a tuple of data enc z, z of zs -/
theorem o_lc {ifs : List Expr} (o : Ok M X N sc k) (own : List (Str × Nat)) (j : Nat) (enc : α → PyData) (zs : List α) (p : α → Bool) (g : α → PyData) (le : Same F H)
    (hi : XD M X iter σ F H (.list (zs.map enc)) ∨ XD M X iter σ F H (.tuple (zs.map enc))) (ok : blkC N sc scope own = true) (hj : j ∈ own.map (·.2)) (hx : N[j]? = some x) (hxl : (relS scope sc).names.lookup x = some .local)
    (hif : ifs = [] ∨ ∃ c, ifs = [c]) (hz : zs.length < 100000)
    (ht : ∀ z, z ∈ zs → ∀ v F1 H1, Grow F H F1 H1 → Dn M.K F1 v (enc z) → Blk M X N sc scope k ifs elt ((wipe σ (own.map (·.2))).set j (some v)) F1 H1 (p z) (g z)) (hp : ifs = [] → ∀ z, p z = true)
    (hs : ∀ x, foldedSetIterable iter X.env x = pure x := by intro _; rfl) : XO M X (.ListComp elt [⟨.Name x tp, iter, ifs, 0⟩] scope pos) σ F H (kept zs p g) := by
  refine ⟨fun F1 H1 gr Q q => ?_⟩
  obtain ⟨tt, htt⟩ : ∃ tt : TT, (ifs = [] ∧ tt = tYes) ∨ ∃ c, ifs = [c] ∧ tt = BT X scope c := by
    rcases hif with h | ⟨c, h⟩
    · exact ⟨_, .inl ⟨h, rfl⟩⟩
    · exact ⟨_, .inr ⟨c, h, rfl⟩⟩
  have okB : BlkOk X.N X.env.scope scope own := by
    rw [o.eN, o.eS]
    exact blkOk_by ok
  have hN : X.N.Nodup := by
    rw [o.eN]
    exact o.nd
  have hT : ∀ (s : Shared) (H : Hp) (C : Addr) (cl : List (Str × Addr)) (fp : List Addr), PTs (X.blk s H scope (compEnvC scope cl C X.env) fp) ifs tt := by
    intro s0 H0 C cl fp
    rcases htt with ⟨rfl, rfl⟩ | ⟨c, rfl, rfl⟩
    · exact pts_nil
    · exact pts_one (BT.pt s0 H0 C cl fp)
  have hG : ∀ (s : Shared) (H : Hp) (C : Addr) (cl : List (Str × Addr)) (fp : List Addr), PG (X.blk s H scope (compEnvC scope cl C X.env) fp) (.Name x tp) (gName j) := by
    intro s0 H0 C cl fp
    have e : (compEnvC scope cl C X.env).scope.names.lookup x = some .local := by
      have : (compEnvC scope cl C X.env).scope = relS scope sc := by
        rw [← o.eS]
        rfl
      rw [this]
      exact hxl
    exact pg_name hN (by show X.N[j]? = some x; rw [o.eN]; exact hx) (.inl e) (.inr e)
  rcases hi with hi | hi
  · refine WE.of (pe_lc o.calm hN (pi_list WE.pe) okB hG hT BE.pe hs) ?_
    refine hi.run F1 H1 gr _ fun y F2 H2 g2 r2 => ?_
    cases r2 with
    | lst ha s =>
      rename_i a xs
      have len := s.len
      rw [List.length_map] at len
      refine ⟨a, rfl, ⟨xs, SqL.of (g2.le _ _ ha)⟩, fun D hD => ?_⟩
      refine lc_list (xs := xs) (fun i H' => LcP M.K F2 H2 D (kept (zs.take i) p g) H') ?_ (fun i H' _ P => ?_) (fun i y H' hi' P => ?_) (fun H' P => ?_)
      · exact ⟨F2, [], Grow.own g2.le hD, g2.le.free hD, hD, upd_same, .nil⟩
      · obtain ⟨F', us, g', _⟩ := P
        exact SqL.of (g'.base _ _ ha)
      · obtain ⟨d, e1, r1⟩ := s.getV hi'
        rw [List.getElem?_map] at e1
        cases e2 : zs[i]? with
        | none =>
          rw [e2] at e1
          cases e1
        | some z =>
          rw [e2] at e1
          have e3 : enc z = d := Option.some.inj e1
          subst e3
          have hmem : z ∈ zs := List.mem_of_getElem? e2
          have T := lc_turn (F := F2) (H := H2) (σ := σ) (b := p z) (e := g z) (v := y) (H' := H') (D := D) (ix := i) o htt hj P (Nat.lt_of_le_of_lt (kept_len _ _ _) (Nat.lt_of_le_of_lt (by rw [List.length_take]; exact Nat.min_le_right _ _) hz)) (fun _ => r1)
            (fun F3 H3 g3 => ht z hmem y F3 H3 ((gr.trans g2).trans g3) (r1.mono g3.ex)) (fun h => hp h z) g2.le
          rw [← kept_snoc, ← take_snoc e2] at T
          exact T
      · rw [len, List.take_length] at P
        obtain ⟨F', us, g', h1, h2, h3, r⟩ := P
        exact q D us F' H' (g2.trans g') h1 (g2.kp.free h2) h3 r
  · refine WE.of (pe_lc o.calm hN (pi_tup WE.pe) okB hG hT BE.pe hs) ?_
    refine hi.run F1 H1 gr _ fun y F2 H2 g2 r2 => ?_
    cases r2 with
    | tup ha s =>
      rename_i a xs
      have len := s.len
      rw [List.length_map] at len
      refine ⟨a, rfl, ⟨xs, by rw [o.eK]; exact sqt_mono g2.le ha⟩, fun D hD => ?_⟩
      refine lc_tup (xs := xs) (fun i H' => LcP M.K F2 H2 D (kept (zs.take i) p g) H') ?_ (fun i H' _ P => ?_) (fun i y H' hi' P => ?_) (fun H' P => ?_)
      · exact ⟨F2, [], Grow.own g2.le hD, g2.le.free hD, hD, upd_same, .nil⟩
      · obtain ⟨F', us, g', _⟩ := P
        rw [o.eK]
        exact sqt_mono g'.base ha
      · obtain ⟨d, e1, r1⟩ := s.getV hi'
        rw [List.getElem?_map] at e1
        cases e2 : zs[i]? with
        | none =>
          rw [e2] at e1
          cases e1
        | some z =>
          rw [e2] at e1
          have e3 : enc z = d := Option.some.inj e1
          subst e3
          have hmem : z ∈ zs := List.mem_of_getElem? e2
          have T := lc_turn (F := F2) (H := H2) (σ := σ) (b := p z) (e := g z) (v := y) (H' := H') (D := D) (ix := i) o htt hj P (Nat.lt_of_le_of_lt (kept_len _ _ _) (Nat.lt_of_le_of_lt (by rw [List.length_take]; exact Nat.min_le_right _ _) hz)) (fun _ => r1)
            (fun F3 H3 g3 => ht z hmem y F3 H3 ((gr.trans g2).trans g3) (r1.mono g3.ex)) (fun h => hp h z) g2.le
          rw [← kept_snoc, ← take_snoc e2] at T
          exact T
      · rw [len, List.take_length] at P
        obtain ⟨F', us, g', h1, h2, h3, r⟩ := P
        exact q D us F' H' (g2.trans g') h1 (g2.kp.free h2) h3 r
/-- [elt for x in range(..) if ..]: PI of the range, walked from lo, n turns -/
theorem o_lcR {ifs : List Expr} (o : Ok M X N sc k) (own : List (Str × Nat)) (j : Nat) (lo : Int) (n : Nat) (p : Nat → Bool) (g : Nat → PyData) {wi : TI} (hpi : PI X (.Name x tp) iter wi)
    (hi : ∀ F1 H1, Grow F H F1 H1 → ∀ R : It → Hp → Prop, (∀ F2 H2, Grow F1 H1 F2 H2 → R (Itr lo n) H2) → wi σ H1 R) (ok : blkC N sc scope own = true) (hj : j ∈ own.map (·.2)) (hx : N[j]? = some x) (hxl : (relS scope sc).names.lookup x = some .local)
    (hif : ifs = [] ∨ ∃ c, ifs = [c]) (hz : n < 100000)
    (ht : ∀ i : Nat, i < n → ∀ F1 H1, Grow F H F1 H1 → Blk M X N sc scope k ifs elt ((wipe σ (own.map (·.2))).set j (some (.int (lo + (i : Int))))) F1 H1 (p i) (g i)) (hp : ifs = [] → ∀ z, p z = true)
    (hs : ∀ x, foldedSetIterable iter X.env x = pure x := by intro _; rfl) : XO M X (.ListComp elt [⟨.Name x tp, iter, ifs, 0⟩] scope pos) σ F H (kept (List.range n) p g) := by
  refine ⟨fun F1 H1 gr Q q => ?_⟩
  obtain ⟨tt, htt⟩ : ∃ tt : TT, (ifs = [] ∧ tt = tYes) ∨ ∃ c, ifs = [c] ∧ tt = BT X scope c := by
    rcases hif with h | ⟨c, h⟩
    · exact ⟨_, .inl ⟨h, rfl⟩⟩
    · exact ⟨_, .inr ⟨c, h, rfl⟩⟩
  have okB : BlkOk X.N X.env.scope scope own := by
    rw [o.eN, o.eS]
    exact blkOk_by ok
  have hN : X.N.Nodup := by
    rw [o.eN]
    exact o.nd
  have hT : ∀ (s : Shared) (H : Hp) (C : Addr) (cl : List (Str × Addr)) (fp : List Addr), PTs (X.blk s H scope (compEnvC scope cl C X.env) fp) ifs tt := by
    intro s0 H0 C cl fp
    rcases htt with ⟨rfl, rfl⟩ | ⟨c, rfl, rfl⟩
    · exact pts_nil
    · exact pts_one (BT.pt s0 H0 C cl fp)
  have hG : ∀ (s : Shared) (H : Hp) (C : Addr) (cl : List (Str × Addr)) (fp : List Addr), PG (X.blk s H scope (compEnvC scope cl C X.env) fp) (.Name x tp) (gName j) := by
    intro s0 H0 C cl fp
    have e : (compEnvC scope cl C X.env).scope.names.lookup x = some .local := by
      have : (compEnvC scope cl C X.env).scope = relS scope sc := by
        rw [← o.eS]
        rfl
      rw [this]
      exact hxl
    exact pg_name hN (by show X.N[j]? = some x; rw [o.eN]; exact hx) (.inl e) (.inr e)
  refine WE.of (pe_lc o.calm hN hpi okB hG hT BE.pe hs) ?_
  refine hi F1 H1 gr _ fun F2 H2 g2 D hD => ?_
  refine lc_range (lo := lo) (n := n) (fun i H' => LcP M.K F2 H2 D (kept (List.range i) p g) H') ?_ (fun i H' hi' P => ?_) (fun H' P => ?_)
  · exact ⟨F2, [], Grow.own g2.le hD, g2.le.free hD, hD, upd_same, .nil⟩
  · have T := lc_turn (F := F2) (H := H2) (σ := σ) (b := p i) (e := g i) (v := .int (lo + i)) (H' := H') (D := D) (ix := i) (d := .int (lo + i)) o htt hj P (Nat.lt_of_le_of_lt (kept_len _ _ _) (by rw [List.length_range]; omega)) (fun _ => .int _)
      (fun F3 H3 g3 => ht i hi' F3 H3 ((gr.trans g2).trans g3)) (fun h => hp h i) g2.le
    rw [← kept_snoc, ← List.range_succ] at T
    exact T
  · obtain ⟨F', us, g', h1, h2, h3, r⟩ := P
    exact q D us F' H' (g2.trans g') h1 (g2.kp.free h2) h3 r
end
end Lay

/-! Lay3: a def's promise by its body; statements over states; loops; errors. -/
namespace Lay
open PySem L2

structure Stt (K : PySem.W.Frag) (F H : Hp) (σ : L2.St) (env : List (Option PyData)) : Prop where
  le : Same F H
  sl : Sl K F σ env
  ln : env.length = σ.length
section
variable {K : PySem.W.Frag} {F H G J : Hp} {σ : L2.St} {env : List (Option PyData)} {d : PyData} {v : V} {i : Nat}
theorem Stt.grow (S : Stt K F H σ env) (g : Grow F H G J) : Stt K G J σ env := ⟨g.le, S.sl.mono g.ex, S.ln⟩
theorem Stt.set (S : Stt K F H σ env) (r : Dn K F v d) : Stt K F H (σ.set i (some v)) (env.set i (some d)) := ⟨S.le, S.sl.set (Nat.le_of_eq S.ln) r, by rw [List.length_set, List.length_set]; exact S.ln⟩
theorem Stt.lose (S : Stt K F H σ env) {o : Option V} : Stt K F H (σ.set i o) (env.set i none) := ⟨S.le, S.sl.lose, by rw [List.length_set, List.length_set]; exact S.ln⟩
theorem Stt.wipe (S : Stt K F H σ env) (vs : List Nat) : Stt K F H (L2.wipe σ vs) (wipeE env vs) := ⟨S.le, S.sl.wipe vs, by rw [wipeE_len, L2.wipe_length]; exact S.ln⟩
/-- a block's slots -/
theorem Stt.blk (S : Stt K F H σ env) {vs : List Nat} {j : Nat} (g : Grow F H G J) (r : Dn K G v d) : Stt K G J ((L2.wipe σ vs).set j (some v)) ((wipeE env vs).set j (some d)) := ((S.wipe vs).grow g).set r
def envOf (ds : List PyData) (n : Nat) : List (Option PyData) := ds.map some ++ List.replicate (n - ds.length) none
theorem stt_start {vs : List V} {ds : List PyData} {N : List Str} (le : Same F H) (r : Dns K F vs ds) (hn : ds.length ≤ N.length) : Stt K F H (L2.start N vs) (envOf ds N.length) :=
  ⟨le, (sl_start r N).pad _, by
    unfold envOf L2.start
    rw [List.length_append, List.length_append, List.length_map, List.length_map, List.length_replicate, List.length_replicate, r.len]⟩
end

section
variable {M : Md} {x qual : Str} {st : Stmt} {f : Addr} {fd : FuncData} {N ps : List Str} {k : Nat} {R : List PyData → Out → Prop}
/-- a def that lets no error out -/
theorem ok_of (F : Fun M.K x qual st f fd) (S : FnScope N ps (defScope st)) (len : ∀ ds r, R ds r → ds.length = ps.length) (hN : ps.length ≤ N.length)
    (body : ∀ X, Ok M X N (defScope st) k → Fs X → ∀ ds r, R ds r → ∀ F H σ Q E, Stt M.K F H σ (envOf ds N.length) → Done M.K F H Q E r → WS X (defBody st) { nx := fun _ H' => Q .non H', rt := Q } σ H) : FnOk M.P M.w M.K M.mg M.base CX0 (k + 1) f fd ps (spG M.K R) := by
  refine F.ok S (fun vs H Q E h => ?_) fun cdv A outer s H vs Q E hr h => ?_
  · obtain ⟨F', ds, r, _, h2, h3, _⟩ := h
    rw [h2.len]
    exact len ds r h3
  · obtain ⟨F', ds, r, h1, h2, h3, h4⟩ := h
    refine ⟨_, WS.ps, ?_⟩
    refine body _ ⟨⟨rfl, rfl, rfl, rfl, rfl, rfl, rfl, S.nd⟩, rfl, hr, PassesOwn.never⟩ ⟨fun _ => rfl, rfl, rfl⟩ ds r h3 F' H _ Q E (stt_start h1 h2 ?_) h4
    rw [len ds r h3]
    exact hN
theorem fc_of (F : Fun M.K x qual st f fd) (gm : M.mg x = some (.ref f)) (bd : Binds M.K fd ps []) (S : FnScope N ps (defScope st)) (len : ∀ ds r, R ds r → ds.length = ps.length) (hN : ps.length ≤ N.length)
    (body : ∀ X, Ok M X N (defScope st) k → Fs X → ∀ ds r, R ds r → ∀ F H σ Q E, Stt M.K F H σ (envOf ds N.length) → Done M.K F H Q E r → WS X (defBody st) { nx := fun _ H' => Q .non H', rt := Q } σ H) : Fc M CX0 x (k + 1) (spG M.K R) :=
  ⟨f, fd, ps, gm, F.kp, bd, ok_of F S len hN body⟩
/-- a def that may raise: what it raises is wished for by E -/
theorem fc_ofX (F : Fun M.K x qual st f fd) (gm : M.mg x = some (.ref f)) (bd : Binds M.K fd ps []) (S : FnScope N ps (defScope st)) (len : ∀ ds r, R ds r → ds.length = ps.length) (hN : ps.length ≤ N.length)
    (body : ∀ X E, Ok M X N (defScope st) k → Fs X → Takes X (fun cls d _ H => E cls d H) → ∀ ds r, R ds r → ∀ F H σ Q, Stt M.K F H σ (envOf ds N.length) → Done M.K F H Q E r → WS X (defBody st) { nx := fun _ H' => Q .non H', rt := Q } σ H) : Fc M (L2.CX M.P M.w) x (k + 1) (spG M.K R) := by
  refine ⟨f, fd, ps, gm, F.kp, bd, F.okX S (fun vs H Q E h => ?_) fun cdv A outer s H vs Q E hr h => ?_⟩
  · obtain ⟨F', ds, r, _, h2, h3, _⟩ := h
    rw [h2.len]
    exact len ds r h3
  · obtain ⟨F', ds, r, h1, h2, h3, h4⟩ := h
    refine ⟨_, WS.ps, ?_⟩
    refine body _ E ⟨⟨rfl, rfl, rfl, rfl, rfl, rfl, rfl, S.nd⟩, rfl, hr, passes_of rfl⟩ ⟨fun _ => rfl, rfl, rfl⟩ (takes_of rfl rfl rfl rfl) ds r h3 F' H _ Q (stt_start h1 h2 ?_) h4
    rw [len ds r h3]
    exact hN
end

section
variable {M : Md} {X : Cx} {N : List Str} {sc : Scope} {k j : Nat} {σ : L2.St} {env : List (Option PyData)} {F H : Hp} {d : PyData} {ds : List PyData} {e tg iter : Expr} {es : List Expr} {st : Stmt} {rest body orelse : List Stmt} {D : Ends} {pos p pos' : Pos} {x : Str} {Q : VK} {E : XK}
/-! ### the rules over states -/
def nameB (sc : Scope) (x : Str) : Bool := visB sc x && !(x == ("__debug__" : Str)) && !(x == ("__classdict__" : Str))
inductive At {α : Type} : List α → Nat → α → Prop
  | here {x : α} {l : List α} : At (x :: l) 0 x
  | there {x y : α} {l : List α} {i : Nat} : At l i x → At (y :: l) (i + 1) x
theorem At.get {α : Type} {l : List α} {i : Nat} {x : α} (h : At l i x) : l[i]? = some x := by
  induction h with
  | here => rfl
  | there _ ih => exact ih
theorem v_ (o : Ok M X N sc k) (S : Stt M.K F H σ env) {i : Nat} (hN : At N i x) (he : env[i]? = some (some d)) (hs : nameB sc x = true) : XD M X (.Name x pos) σ F H d := by
  unfold nameB at hs
  simp only [Bool.and_eq_true, Bool.not_eq_true'] at hs
  exact x_var o.toOk0 S.sl i he hN.get hs.1.1 hs.1.2 hs.2
theorem t_set (o : Ok M X N sc k) (fs : Fs X) (S : Stt M.K F H σ env) {i : Nat} (hN : At N i x) (h : XD M X e σ F H d) (kk : ∀ v F' H', Grow F H F' H' → Stt M.K F' H' (σ.set i (some v)) (env.set i (some d)) → D.nx (σ.set i (some v)) H')
    (hl : locB sc x = true := by decide +kernel) (hs : swapsWith e (some (.Name x p)) pos.line X.env = pure false := by rfl) : W1 X (.Assign [.Name x p] e pos) D σ H :=
  s_set o.toOk0 fs _ h S.le (fun v F' H' g r => kk v F' H' g ((S.grow g).set r)) hN.get hl hs
theorem t_setO (o : Ok M X N sc k) (fs : Fs X) (S : Stt M.K F H σ env) {i : Nat} (hN : At N i x) (h : XO M X e σ F H ds)
    (kk : ∀ l vs F' H', Grow F H F' H' → F' l = none → H l = none → H' l = some (.lst vs) → Dns M.K F' vs ds → Stt M.K F' H' (σ.set i (some (.ref l))) (env.set i none) → D.nx (σ.set i (some (.ref l))) H')
    (hl : locB sc x = true := by decide +kernel) (hs : swapsWith e (some (.Name x p)) pos.line X.env = pure false := by rfl) : W1 X (.Assign [.Name x p] e pos) D σ H :=
  s_setO o.toOk0 fs _ h S.le (fun l vs F' H' g h1 h2 h3 r => kk l vs F' H' g h1 h2 h3 r ((S.grow g).lose)) hN.get hl hs
theorem t_ret (S : Stt M.K F H σ env) (h : XD M X e σ F H d) (kk : ∀ v F' H', Grow F H F' H' → Dn M.K F' v d → D.rt v H') : W1 X (.Return (some e) pos) D σ H := s_ret h S.le kk
theorem t_done (S : Stt M.K F H σ env) (h : XD M X e σ F H d) (kk : Done M.K F H D.rt E (.val d)) : W1 X (.Return (some e) pos) D σ H := s_ret h S.le kk
theorem t_doneO (S : Stt M.K F H σ env) (h : XO M X e σ F H ds) (kk : Done M.K F H D.rt E (.own ds)) : W1 X (.Return (some e) pos) D σ H := s_retO h S.le kk
theorem t_if {c : Bool} (S : Stt M.K F H σ env) (h : XB M X e σ F H c) (ht : c = true → ∀ F' H', Grow F H F' H' → Stt M.K F' H' σ env → WS X body D σ H') (hf : c = false → ∀ F' H', Grow F H F' H' → Stt M.K F' H' σ env → WS X orelse D σ H') : W1 X (.If e body orelse pos) D σ H :=
  s_if h S.le (fun hc F' H' g => ht hc F' H' g (S.grow g)) (fun hc F' H' g => hf hc F' H' g (S.grow g))
/-- an if without else that ends the def on its way -/
theorem s_expr_val (h : XD M X e σ F H d) (le : Same F H) (kk : ∀ F' H', Grow F H F' H' → D.nx σ H') (hs : swapsWith e none pos.line X.env = pure false := by rfl) : W1 X (.Expr e pos) D σ H :=
  s_expr (h.run F H (Grow.refl le) _ fun v F' H' g _ => kk F' H' g) hs

/-! ### errors -/
theorem t_raise {pos2 : Pos} {cl m : Str} {C : Addr} {cn : Nat} {bmB : List Value} {B newId initId : String} (o : Ok M X N sc k) (tk : Takes X (fun cls d _ H => E cls d H)) (Fb : PySem.ExcBaseFacts B newId initId bmB) (q : PySem.W.excIn M.K C bmB newId = true)
    (gC : M.mg cl = some (.ref C)) (kC : PySem.W.keepIn M.K (.ref C) = true) (bC : PySem.W.subIn M.K (.ref C) (.type "BaseException") = some true) (tC : PySem.W.typeIn M.K (.ref C) = some (.type "type")) (h : E (.ref C) none H)
    (hg : sc.names.lookup cl = some .globalImplicit := by decide +kernel) (hdb : (cl == ("__debug__" : Str)) = false := by decide +kernel) : W1 X (.Raise (some (.Call (.Name cl p) [.Constant (.str m) cn pos'] [] pos)) none pos2) D σ H :=
  W1.of (ps_raise o.calm tk (pmk_own Fb (by rw [o.eK]; exact q) (by rw [o.eG]; exact gC) (by rw [o.eK]; exact kC) (raises_own (by rw [o.eK]; exact bC) (by rw [o.eK]; exact tC)) (gl_of o.toOk0 hg) hdb)) h
end
end Lay

/-! Lay4: slices, texts, built-ins of lists, isinstance; loops. -/
namespace Lay
open PySem L2

section
variable {M : Md} {X : Cx} {N : List Str} {sc : Scope} {k j : Nat} {σ : L2.St} {env : List (Option PyData)} {F H : Hp} {d : PyData} {ds es' : List PyData} {e a b : Expr} {es : List Expr} {pos p p2 apos : Pos} {x : Str} {lo hi : Option Expr} {vlo vhi : Option Int}
/-! ### slices -/
/-- a slice's part -/
inductive XP (M : Md) (X : Cx) (σ : L2.St) (F H : Hp) : Option Expr → Option Int → Prop
  | no : XP M X σ F H none none
  | yes {e : Expr} {i : Int} (h : XD M X e σ F H (.int i)) : XP M X σ F H (some e) (some i)
/-- both parts, run one behind the other -/
theorem parts_run (hl : XP M X σ F H lo vlo) (hh : XP M X σ F H hi vhi) : ∃ tl th : TO, PO X lo tl ∧ PO X hi th ∧ ∀ F1 H1, Grow F H F1 H1 → ∀ R : Option Int → Option Int → Hp → Prop, (∀ F' H', Grow F1 H1 F' H' → R vlo vhi H') → tl σ H1 fun l H2 => th σ H2 fun u H3 => R l u H3 := by
  cases hl with
  | no =>
    cases hh with
    | no => exact ⟨_, _, po_none, po_none, fun F1 H1 g R q => q F1 H1 (Grow.refl g.le)⟩
    | yes h =>
      refine ⟨_, _, po_none, po_some WE.pe, fun F1 H1 g R q => ?_⟩
      refine h.run F1 H1 g _ fun v F2 H2 g2 r => ?_
      cases r
      exact ⟨_, rfl, q F2 H2 g2⟩
  | yes h1 =>
    cases hh with
    | no =>
      refine ⟨_, _, po_some WE.pe, po_none, fun F1 H1 g R q => ?_⟩
      refine h1.run F1 H1 g _ fun v F2 H2 g2 r => ?_
      cases r
      exact ⟨_, rfl, q F2 H2 g2⟩
    | yes h =>
      refine ⟨_, _, po_some WE.pe, po_some WE.pe, fun F1 H1 g R q => ?_⟩
      refine h1.run F1 H1 g _ fun v F2 H2 g2 r => ?_
      cases r
      refine ⟨_, rfl, ?_⟩
      refine h.run F2 H2 (g.trans g2) _ fun v F3 H3 g3 r3 => ?_
      cases r3
      exact ⟨_, rfl, q F3 H3 (g2.trans g3)⟩
/-- the items of a list's slice -/
def cutD (ds : List PyData) (lo hi : Option Int) : List PyData := (ds.drop (HT.sIx ds.length 0 lo)).take (HT.sIx ds.length ds.length hi - HT.sIx ds.length 0 lo)
theorem cut_dns {K : PySem.W.Frag} {vs : List V} (r : Dns K F vs ds) : Dns K F (cutV vs vlo vhi) (cutD ds vlo vhi) := by
  unfold cutV cutD
  rw [r.len]
  exact (r.drop _).take _
theorem o_slL (o : Ok0 M X N sc) (ha : XD M X a σ F H (.list ds)) (hl : XP M X σ F H lo vlo) (hh : XP M X σ F H hi vhi) : XO M X (.Subscript a (.Slice lo hi none p2) pos) σ F H (cutD ds vlo vhi) := by
  obtain ⟨tl, th, pl, ph, run⟩ := parts_run hl hh
  refine ⟨fun F1 H1 g Q q => ?_⟩
  refine WE.of (pe_slice sl_list WE.pe pl ph) ?_
  refine ha.run F1 H1 g _ fun y F2 H2 g2 r2 => ?_
  refine run F2 H2 (g.trans g2) _ fun F3 H3 g3 => ?_
  cases r2 with
  | lst h s =>
    refine ⟨_, _, rfl, SqL.of (g3.base _ _ h), fun l hl => ?_⟩
    exact q l _ F3 _ ((g2.trans g3).trans (Grow.own g3.le hl)) (g3.le.free hl) ((g2.trans g3).kp.free hl) upd_same (cut_dns (s.mono g3.ex))
theorem x_slT (o : Ok0 M X N sc) (ha : XD M X a σ F H (.tuple ds)) (hl : XP M X σ F H lo vlo) (hh : XP M X σ F H hi vhi) (hw : ¬ (HT.sIx ds.length 0 vlo = 0 ∧ HT.sIx ds.length ds.length vhi = ds.length)) : XD M X (.Subscript a (.Slice lo hi none p2) pos) σ F H (.tuple (cutD ds vlo vhi)) := by
  obtain ⟨tl, th, pl, ph, run⟩ := parts_run hl hh
  refine ⟨fun F1 H1 g Q q => ?_⟩
  refine WE.of (pe_slice sl_tup WE.pe pl ph) ?_
  refine ha.run F1 H1 g _ fun y F2 H2 g2 r2 => ?_
  refine run F2 H2 (g.trans g2) _ fun F3 H3 g3 => ?_
  cases r2 with
  | tup h s =>
    rename_i c xs
    refine ⟨_, _, rfl, by rw [o.eK]; exact sqt_mono g3.base h, by rw [s.len]; exact hw, fun l hl => ?_⟩
    have gA := Grow.add (o := .tup (cutV xs vlo vhi)) g3.le hl
    exact q _ _ _ ((g2.trans g3).trans gA) (.tup (SqT.of upd_same) (cut_dns (s.mono (g3.ex.trans gA.ex))))
theorem x_slS {z : Str} (ha : XD M X a σ F H (.str z)) (hl : XP M X σ F H lo vlo) (hh : XP M X σ F H hi vhi) (hz : z.length ≤ 100000) : XD M X (.Subscript a (.Slice lo hi none p2) pos) σ F H (.str (cutS z vlo vhi)) := by
  obtain ⟨tl, th, pl, ph, run⟩ := parts_run hl hh
  refine ⟨fun F1 H1 g Q q => ?_⟩
  refine WE.of (pe_slice sl_str WE.pe pl ph) ?_
  refine ha.run F1 H1 g _ fun y F2 H2 g2 r2 => ?_
  refine run F2 H2 (g.trans g2) _ fun F3 H3 g3 => ?_
  cases r2
  exact ⟨_, rfl, Nat.le_trans hz (by decide), q _ F3 H3 (g2.trans g3) (.str _)⟩
/-- a tuple and a tuple, neither empty -/
theorem x_addt {ds1 ds2 : List PyData} (o : Ok0 M X N sc) (ha : XD M X a σ F H (.tuple ds1)) (hb : XD M X b σ F H (.tuple ds2)) (h : ds1.length + ds2.length ≤ sizeLine) (h1 : ds1 ≠ []) : XD M X (.BinOp a .Add b pos) σ F H (.tuple (ds1 ++ ds2)) := by
  refine ⟨fun F1 H1 g Q q => ?_⟩
  refine WE.of (pe_op op_catT WE.pe WE.pe) ?_
  refine ha.run F1 H1 g _ fun x F2 H2 g2 r2 => ?_
  refine hb.run F2 H2 (g.trans g2) _ fun y F3 H3 g3 r3 => ?_
  have r2' := r2.mono g3.ex
  cases r2' with
  | tup t1 s1 =>
    rename_i c1 xs1
    cases r3 with
    | tup t2 s2 =>
      rename_i c2 xs2
      refine ⟨_, _, _, _, rfl, rfl, by rw [o.eK]; exact sqt_mono g3.le t1, by rw [o.eK]; exact sqt_mono g3.le t2, ?_, by rw [s1.len, s2.len]; exact h, fun z => ?_, fun _ l hl => ?_⟩
      · intro z
        have := s1.len
        rw [z] at this
        exact h1 (List.eq_nil_of_length_eq_zero this.symm)
      · have e2 : ds2 = [] := by
          have := s2.len
          rw [z] at this
          exact List.eq_nil_of_length_eq_zero this.symm
        rw [e2, List.append_nil] at q
        exact q _ F3 H3 (g2.trans g3) (.tup t1 s1)
      · have gA := Grow.add (o := .tup (xs1 ++ xs2)) g3.le hl
        exact q _ _ _ ((g2.trans g3).trans gA) (.tup (SqT.of upd_same) ((s1.app s2).mono gA.ex))
/-! ### texts -/
theorem x_join {y : Str} {parts : List Str} (o : Ok0 M X N sc) (ha : XD M X a σ F H (.str y)) (hb : XD M X e σ F H (.list (parts.map PyData.str))) (hz : (parts.map (·.length)).sum + parts.length * y.length ≤ 16777216)
    (hs : starEach [e] X.env = [(false, eval e X.env)] := by rfl) (hbase : attributeBase a "join" X.env (eval a X.env) = eval a X.env := by rfl) (hline : (apos.endLine == pos.line) = true := by rfl) : XD M X (.Call (.Attribute a "join" apos) [e] [] pos) σ F H (.str (Txt.join y parts)) := by
  refine ⟨fun F1 H1 g Q q => ?_⟩
  refine WE.of (pe_join WE.pe WE.pe hs hbase hline) ?_
  refine ha.run F1 H1 g _ fun v F2 H2 g2 r2 => ?_
  cases r2
  refine ⟨⟨_, rfl⟩, ?_⟩
  refine hb.run F2 H2 (g.trans g2) _ fun w F3 H3 g3 r3 => ?_
  cases r3 with
  | lst h s =>
    have ev := strs_of s
    subst ev
    exact ⟨_, _, parts, rfl, rfl, .inl (SqL.of (g3.le _ _ h)), hz, q _ F3 H3 (g2.trans g3) (.str _)⟩
theorem x_count {y z : Str} (ha : XD M X a σ F H (.str y)) (hb : XD M X e σ F H (.str z))
    (hs : starEach [e] X.env = [(false, eval e X.env)] := by rfl) (hbase : attributeBase a "count" X.env (eval a X.env) = eval a X.env := by rfl) (hline : (apos.endLine == pos.line) = true := by rfl) : XD M X (.Call (.Attribute a "count" apos) [e] [] pos) σ F H (.int (Txt.count y z)) := by
  refine ⟨fun F1 H1 g Q q => ?_⟩
  refine WE.of (pe_m1 PySem.F.slot_str_count PySem.F.type_str_count mt_count WE.pe WE.pe hs hbase hline) ?_
  refine ha.run F1 H1 g _ fun v F2 H2 g2 r2 => ?_
  cases r2
  refine ⟨⟨_, rfl⟩, ?_⟩
  refine hb.run F2 H2 (g.trans g2) _ fun w F3 H3 g3 r3 => ?_
  cases r3
  exact ⟨_, _, rfl, rfl, q _ F3 H3 (g2.trans g3) (.int _)⟩
theorem b_inS {c : Nat} {z : Str} (ha : XD M X a σ F H (.str ⟨#[c]⟩)) (hb : XD M X b σ F H (.str z)) (hm : behindInMarks .In b = false := by rfl) : XB M X (.Compare a [.In] [b] pos) σ F H (decide (c ∈ z.cps.toList)) :=
  b_cmp op_in_sign hm ha.xh hb.xh fun x y F1 H1 g rx ry Q q => by
    cases rx
    cases ry
    exact ⟨_, _, rfl, rfl, q F1 H1 (Grow.refl g.le)⟩
theorem b_ninS {c : Nat} {z : Str} (ha : XD M X a σ F H (.str ⟨#[c]⟩)) (hb : XD M X b σ F H (.str z)) (hm : behindInMarks .NotIn b = false := by rfl) : XB M X (.Compare a [.NotIn] [b] pos) σ F H (!decide (c ∈ z.cps.toList)) :=
  b_cmp op_notIn_sign hm ha.xh hb.xh fun x y F1 H1 g rx ry Q q => by
    cases rx
    cases ry
    exact ⟨_, _, rfl, rfl, q F1 H1 (Grow.refl g.le)⟩

/-! ### built-ins over lists -/
/-- sorted of whole numbers, any number of them -/
theorem sorted_the {ns a b : List Int} (pa : a.Perm ns) (sa : a.Pairwise (· ≤ ·)) (pb : b.Perm ns) (sb : b.Pairwise (· ≤ ·)) : a = b := List.Perm.eq_of_pairwise (le := (· ≤ ·)) (fun x y _ _ h1 h2 => Int.le_antisymm h1 h2) sa sb (pa.trans pb.symm)
theorem o_sortedI {ns ms : List Int} (o : Ok0 M X N sc) (hm : M.mg "sorted" = none) (ha : XD M X e σ F H (.list (ns.map PyData.int))) (hp : ms.Perm ns) (hs' : ms.Pairwise (· ≤ ·)) (hg : sc.names.lookup ("sorted" : Str) = some .globalImplicit := by decide +kernel)
    (he : starEach (e :: []) X.env = (false, eval e X.env) :: starEach [] X.env := by rfl) (hpl : (backTo pos (starEach [] X.env)).any (·.1) = false := by rfl) : XO M X (.Call (.Name "sorted" p) [e] [] pos) σ F H (ms.map PyData.int) :=
  o_callB o cr_sortedI hm PyProof.Rows.boot_sorted (a_cons ha a_nil he) (fun vs F1 H1 g r Q q => by
    cases r with
    | cons h t =>
      cases t
      cases h with
      | lst hl s =>
        have ev := ints_of s
        subst ev
        refine ⟨_, ns, rfl, SqL.of (g.le _ _ hl), fun ns' l perm srt hl' => ?_⟩
        have e1 := sorted_the perm srt hp hs'
        subst e1
        exact q l _ F1 _ (Grow.own g.le hl') (g.le.free hl') hl' upd_same (dns_ints _)) hg (by decide +kernel) (by decide +kernel) he hpl
theorem x_sum {ns : List Int} (o : Ok M X N sc k) (hm : M.mg "sum" = none) (ha : XH M X e σ F H (.list (ns.map PyData.int))) (hg : sc.names.lookup ("sum" : Str) = some .globalImplicit := by decide +kernel)
    (he : starEach [e] X.env = (false, eval e X.env) :: starEach [] X.env := by rfl) (hpl : (backTo pos (starEach [] X.env)).any (·.1) = false := by rfl) : XD M X (.Call (.Name "sum" p) [e] [] pos) σ F H (.int ns.sum) :=
  x_callBh o.toOk0 (cr_sum o.calm) hm PyProof.Rows.boot_sum ha (fun v F1 H1 g r Q q => by
    cases r with
    | lst h s =>
      have ev := ints_of s
      subst ev
      exact ⟨_, ns, rfl, SqL.of h, q _ F1 H1 (Grow.refl g.le) (.int _)⟩) hg (by decide +kernel) (by decide +kernel) he hpl
theorem x_all {bs : List Bool} (o : Ok M X N sc k) (hm : M.mg "all" = none) (ha : XH M X e σ F H (.list (bs.map PyData.bool))) (hg : sc.names.lookup ("all" : Str) = some .globalImplicit := by decide +kernel)
    (he : starEach [e] X.env = (false, eval e X.env) :: starEach [] X.env := by rfl) (hpl : (backTo pos (starEach [] X.env)).any (·.1) = false := by rfl) : XD M X (.Call (.Name "all" p) [e] [] pos) σ F H (.bool (bs.all id)) :=
  x_callBh o.toOk0 (cr_all o.calm) hm PyProof.Rows.boot_all ha (fun v F1 H1 g r Q q => by
    cases r with
    | lst h s =>
      have ev := bls_of s
      subst ev
      exact ⟨_, bs, rfl, SqL.of h, q _ F1 H1 (Grow.refl g.le) (.bl _)⟩) hg (by decide +kernel) (by decide +kernel) he hpl
/-- int(flag) -/
theorem x_intB {c : Bool} (o : Ok0 M X N sc) (hm : M.mg "int" = none) (ha : XD M X e σ F H (.bool c)) (hg : sc.names.lookup ("int" : Str) = some .globalImplicit := by decide +kernel)
    (he : starEach (e :: []) X.env = (false, eval e X.env) :: starEach [] X.env := by rfl) (hpl : (backTo pos (starEach [] X.env)).any (·.1) = false := by rfl) : XD M X (.Call (.Name "int" p) [e] [] pos) σ F H (.int (if c then 1 else 0)) :=
  x_callTy o call_int1 hm PyProof.Rows.boot_int (a_cons ha a_nil he) (fun vs F1 H1 g r Q q => by
    cases r with
    | cons h t =>
      cases t
      cases h
      exact .inr ⟨c, rfl, q _ F1 H1 (Grow.refl g.le) (.int _)⟩) hg (by decide +kernel) (by decide +kernel) he hpl
/-- list(xs): a new list -/
theorem o_list (o : Ok0 M X N sc) (hm : M.mg "list" = none) (ha : XD M X e σ F H (.list ds)) (hg : sc.names.lookup ("list" : Str) = some .globalImplicit := by decide +kernel)
    (he : starEach (e :: []) X.env = (false, eval e X.env) :: starEach [] X.env := by rfl) (hpl : (backTo pos (starEach [] X.env)).any (·.1) = false := by rfl) : XO M X (.Call (.Name "list" p) [e] [] pos) σ F H ds := by
  refine ⟨fun F1 H1 g Q q => ?_⟩
  refine WE.of (pe_callTy call_list_of (gl_of o hg) (by rw [o.eG]; exact hm) PyProof.Rows.boot_list WA.pa (by decide +kernel) (by decide +kernel) he hpl) ?_
  refine (a_cons ha a_nil he).run F1 H1 g _ fun vs F2 H2 g2 r2 => ?_
  cases r2 with
  | cons h t =>
    cases t
    cases h with
    | lst hl s =>
      refine ⟨_, _, rfl, .inl (SqL.of (g2.le _ _ hl)), fun l hl' => ?_⟩
      exact q l _ F2 _ (g2.trans (Grow.own g2.le hl')) (g2.le.free hl') (g2.kp.free hl') upd_same s
/-- tuple(xs) of a list -/
theorem x_tuple (o : Ok0 M X N sc) (hm : M.mg "tuple" = none) (ha : XD M X e σ F H (.list ds)) (hg : sc.names.lookup ("tuple" : Str) = some .globalImplicit := by decide +kernel)
    (he : starEach (e :: []) X.env = (false, eval e X.env) :: starEach [] X.env := by rfl) (hpl : (backTo pos (starEach [] X.env)).any (·.1) = false := by rfl) : XD M X (.Call (.Name "tuple" p) [e] [] pos) σ F H (.tuple ds) :=
  x_callTy o call_tuple_of hm PyProof.Rows.boot_tuple (a_cons ha a_nil he) (fun vs F1 H1 g r Q q => by
    cases r with
    | cons h t =>
      cases t
      cases h with
      | lst hl s =>
        rename_i c xs
        refine ⟨_, _, rfl, .inl ⟨SqL.of (g.le _ _ hl), fun l hl' => ?_⟩⟩
        have gA := Grow.add (o := .tup xs) g.le hl'
        exact q _ _ _ gA (.tup (SqT.of upd_same) (s.mono gA.ex))) hg (by decide +kernel) (by decide +kernel) he hpl
/-! ### isinstance of data -/
def tyD : PyData → String
  | .none => "NoneType"
  | .bool _ => "bool"
  | .int _ => "int"
  | .str _ => "str"
  | .list _ => "list"
  | .tuple _ => "tuple"
  | .dict _ => "script"
def isScr : PyData → Bool
  | .dict _ => true
  | _ => false
theorem tyx_of {K : PySem.W.Frag} {v : V} (r : Dn K H v d) (hd : isScr d = false) : TyX K H v (.type (tyD d)) := by
  cases r with
  | non => exact .base .non
  | bl b => exact .base (.bl b)
  | int i => exact .base (.int i)
  | str x => exact .base (.str x)
  | lst h _ => exact .base (.lst h)
  | tup h _ =>
    rcases h with (h | ⟨o, h⟩) | ⟨o, its, n, h, hc, _⟩
    · exact .base (.tup h)
    · exact .fTuple h
    · exact .kTuple h hc
  | scr _ => cases hd
theorem x_isi {T : Str} {T' : String} {r : Bool} {pT : Pos} (o : Ok0 M X N sc) (hm : M.mg "isinstance" = none) (hT : M.mg T = none) (hb : bootBuiltins T = some (.type T')) (ha : XD M X e σ F H d) (hk : kitB (tyD d) T' = some r) (hd : isScr d = false)
    (hg : sc.names.lookup ("isinstance" : Str) = some .globalImplicit) (hgT : sc.names.lookup T = some .globalImplicit) (hn : T ≠ "__name__") (hdb : (T == ("__debug__" : Str)) = false)
    (he : starEach [e, .Name T pT] X.env = (false, eval e X.env) :: starEach [.Name T pT] X.env := by rfl) (he2 : starEach [.Name T pT] X.env = (false, eval (.Name T pT) X.env) :: starEach [] X.env := by rfl) (hpl : (backTo pos (starEach [.Name T pT] X.env)).any (·.1) = false := by rfl) :
    XD M X (.Call (.Name "isinstance" p) [e, .Name T pT] [] pos) σ F H (.bool r) := by
  refine ⟨fun F1 H1 g Q q => ?_⟩
  refine WE.of (pe_callB call_isi (gl_of o hg) (by rw [o.eG]; exact hm) PyProof.Rows.boot_isinstance (pa_cons WE.pe (pa_cons (pe_bltn (v := .ty T') (gl_of o hgT) (by rw [o.eG]; exact hT) hb rfl hn hdb) pa_nil he2) he) (by decide +kernel) (by decide +kernel) he hpl) ?_
  refine ha.run F1 H1 g _ fun v F2 H2 g2 r2 => ?_
  exact ⟨v, .ty T', .type (tyD d), .type T', r, rfl, .ty T', by rw [o.eK]; exact tyx_of (r2.mono g2.le) hd, kit_ty hk, q _ F2 H2 g2 (.bl r)⟩
end

/-! ### loops -/
section
variable {M : Md} {X : Cx} {N : List Str} {sc : Scope} {k j : Nat} {σ : L2.St} {env : List (Option PyData)} {F H : Hp} {iter e : Expr} {es : List Expr} {body : List Stmt} {D : Ends} {pos p tp : Pos} {x : Str} {α : Type}
/-- what a turn is to reach -/
def Nx (Pv : Hp → L2.St → Hp → Prop) (F : Hp) : L2.St → Hp → Prop := fun σ' H' => ∃ F', Same F F' ∧ Same F' H' ∧ Pv F' σ' H'
theorem t_for (o : Ok M X N sc k) (fs : Fs X) (S : Stt M.K F H σ env) (hN : At N j x) (enc : α → PyData) (zs : List α) (hi : XD M X iter σ F H (.list (zs.map enc)) ∨ XD M X iter σ F H (.tuple (zs.map enc))) (Pv : Nat → Hp → L2.St → Hp → Prop)
    (h0 : ∀ F' H', Grow F H F' H' → Stt M.K F' H' σ env → Pv 0 F' σ H')
    (hs : ∀ i z v F' σ' H', zs[i]? = some z → Same F F' → Same F' H' → Pv i F' σ' H' → Dn M.K F' v (enc z) → WS X body { D with nx := Nx (Pv (i + 1)) F', ct := Nx (Pv (i + 1)) F', bk := D.nx } (σ'.set j (some v)) H')
    (hd : ∀ F' σ' H', Same F F' → Same F' H' → Pv zs.length F' σ' H' → D.nx σ' H') (hl : locB sc x = true := by decide +kernel) (hf : ∀ x, foldedSetIterable iter X.env x = pure x := by intro _; rfl) : W1 X (.For (.Name x tp) iter body [] pos) D σ H := by
  have hx : L2.Loc X.env.scope x := by
    rw [o.eS]
    exact loc_of hl
  have hG : PG X (.Name x tp) (gName j) := pg_name (by rw [o.eN]; exact o.nd) (by rw [o.eN]; exact hN.get) hx (.inl (fs.fn x))
  have core : ∀ {xs : List V} {F2 H2 : Hp}, Grow F H F2 H2 → Dns M.K F2 xs (zs.map enc) → ∀ i v σ' H', xs[i]? = some v → (∃ F', Same F2 F' ∧ Same F' H' ∧ Pv i F' σ' H') →
      gName j v σ' H' fun σ2 H2' => WS X body { { D with nx := D.nx } with nx := fun σ'' H'' => ∃ F', Same F2 F' ∧ Same F' H'' ∧ Pv (i + 1) F' σ'' H'', ct := fun σ'' H'' => ∃ F', Same F2 F' ∧ Same F' H'' ∧ Pv (i + 1) F' σ'' H'', bk := D.nx } σ2 H2' := by
    intro xs F2 H2 g2 s i v σ' H' hv P
    obtain ⟨F', e1, e2, P⟩ := P
    obtain ⟨d, hd', r⟩ := s.getV hv
    rw [List.getElem?_map] at hd'
    cases hz : zs[i]? with
    | none =>
      rw [hz] at hd'
      cases hd'
    | some z =>
      rw [hz] at hd'
      have ez : enc z = d := Option.some.inj hd'
      subst ez
      have T := hs i z v F' σ' H' hz (g2.ex.trans e1) e2 P (r.mono e1)
      refine ⟨fun pins s I => thn (T.run pins s I) fun f s1 q => ?_⟩
      cases f with
      | next =>
        obtain ⟨σ3, H3, I3, F3, c1, c2, P3⟩ := q
        exact ⟨σ3, H3, I3, F3, e1.trans c1, c2, P3⟩
      | cont =>
        obtain ⟨σ3, H3, I3, F3, c1, c2, P3⟩ := q
        exact ⟨σ3, H3, I3, F3, e1.trans c1, c2, P3⟩
      | brk => exact q
      | ret u => exact q
  rcases hi with hi | hi
  · refine W1.of (ps_for o.pass o.calm (pi_list WE.pe) hG WS.ps hf) ?_
    refine hi.run F H (Grow.refl S.le) _ fun y F2 H2 g2 r2 => ?_
    cases r2 with
    | lst ha s =>
      rename_i a xs
      have len := s.len
      rw [List.length_map] at len
      refine ⟨a, rfl, ⟨xs, SqL.of (g2.le _ _ ha)⟩, ?_⟩
      refine for_list (xs := xs) (fun i σ' H' => ∃ F', Same F2 F' ∧ Same F' H' ∧ Pv i F' σ' H') ⟨F2, Same.refl _, g2.le, h0 F2 H2 g2 (S.grow g2)⟩ (fun i σ' H' _ P => ?_) (fun i v σ' H' hv P => core g2 s i v σ' H' hv P) (fun σ' H' P => ?_)
      · obtain ⟨F', e1, e2, _⟩ := P
        exact SqL.of (e2 _ _ (e1 _ _ ha))
      · rw [len] at P
        obtain ⟨F', e1, e2, P⟩ := P
        exact hd F' σ' H' (g2.ex.trans e1) e2 P
  · refine W1.of (ps_for o.pass o.calm (pi_tup WE.pe) hG WS.ps hf) ?_
    refine hi.run F H (Grow.refl S.le) _ fun y F2 H2 g2 r2 => ?_
    cases r2 with
    | tup ha s =>
      rename_i a xs
      have len := s.len
      rw [List.length_map] at len
      refine ⟨a, rfl, ⟨xs, by rw [o.eK]; exact sqt_mono g2.le ha⟩, ?_⟩
      refine for_tup (xs := xs) (fun i σ' H' => ∃ F', Same F2 F' ∧ Same F' H' ∧ Pv i F' σ' H') ⟨F2, Same.refl _, g2.le, h0 F2 H2 g2 (S.grow g2)⟩ (fun i σ' H' _ P => ?_) (fun i v σ' H' hv P => core g2 s i v σ' H' hv P) (fun σ' H' P => ?_)
      · obtain ⟨F', e1, e2, _⟩ := P
        rw [o.eK]
        exact sqt_mono (e1.trans e2) ha
      · rw [len] at P
        obtain ⟨F', e1, e2, P⟩ := P
        exact hd F' σ' H' (g2.ex.trans e1) e2 P
/-- for x in a text -/
theorem t_forS (o : Ok M X N sc k) (fs : Fs X) (S : Stt M.K F H σ env) (hN : At N j x) (z : Str) (hi : XD M X iter σ F H (.str z)) (Pv : Nat → Hp → L2.St → Hp → Prop)
    (h0 : ∀ F' H', Grow F H F' H' → Stt M.K F' H' σ env → Pv 0 F' σ H')
    (hs : ∀ i c F' σ' H', z.cps[i]? = some c → Same F F' → Same F' H' → Pv i F' σ' H' → WS X body { D with nx := Nx (Pv (i + 1)) F', ct := Nx (Pv (i + 1)) F', bk := D.nx } (σ'.set j (some (.str ⟨#[c]⟩))) H')
    (hd : ∀ F' σ' H', Same F F' → Same F' H' → Pv z.cps.size F' σ' H' → D.nx σ' H') (hl : locB sc x = true := by decide +kernel) (hf : ∀ x, foldedSetIterable iter X.env x = pure x := by intro _; rfl) : W1 X (.For (.Name x tp) iter body [] pos) D σ H := by
  have hx : L2.Loc X.env.scope x := by
    rw [o.eS]
    exact loc_of hl
  have hG : PG X (.Name x tp) (gName j) := pg_name (by rw [o.eN]; exact o.nd) (by rw [o.eN]; exact hN.get) hx (.inl (fs.fn x))
  refine W1.of (ps_for o.pass o.calm (pi_str WE.pe) hG WS.ps hf) ?_
  refine hi.run F H (Grow.refl S.le) _ fun y F2 H2 g2 r2 => ?_
  cases r2
  refine ⟨z, rfl, fun i m σ' H' => m = z.cps.size - i ∧ i ≤ z.cps.size ∧ ∃ F', Same F2 F' ∧ Same F' H' ∧ Pv i F' σ' H', ⟨_, rfl, Nat.zero_le _, F2, Same.refl _, g2.le, h0 F2 H2 g2 (S.grow g2)⟩, ?_⟩
  rintro i m σ' H' ⟨rfl, hi, F', e1, e2, P⟩
  by_cases hlt : i < z.cps.size
  · refine .inr ⟨hlt, Nx (Pv (i + 1)) F', fun σ'' H'' q => ?_, fun v H'' hv => ?_⟩
    · obtain ⟨F3, c1, c2, P3⟩ := q
      exact ⟨_, by omega, rfl, hlt, F3, e1.trans c1, c2, P3⟩
    · obtain ⟨rfl, c, hc, rfl⟩ := hv
      exact hs i c F' σ' _ hc (g2.ex.trans e1) e2 P
  · have ei : i = z.cps.size := Nat.le_antisymm hi (Nat.le_of_not_lt hlt)
    subst ei
    exact .inl ⟨Nat.le_refl _, hd F' σ' H' (g2.ex.trans e1) e2 P⟩
/-- what range(..) walks -/
structure XR (X : Cx) (tg iter : Expr) (σ : L2.St) (F H : Hp) (lo : Int) (n : Nat) : Prop where
  ex : ∃ wi : TI, PI X tg iter wi ∧ ∀ F1 H1, Grow F H F1 H1 → ∀ R : It → Hp → Prop, (∀ F2 H2, Grow F1 H1 F2 H2 → R (Itr lo n) H2) → wi σ H1 R
theorem r_1 {a : Expr} {n : Int} {tg : Expr} (o : Ok0 M X N sc) (hm : M.mg "range" = none) (h : XD M X a σ F H (.int n)) (hn : 0 ≤ n ∧ n < 2 ^ 62) (hg : sc.names.lookup ("range" : Str) = some .globalImplicit := by decide +kernel)
    (hs : starEach [a] X.env = [(false, eval a X.env)] := by rfl) : XR X tg (.Call (.Name "range" p) [a] [] pos) σ F H 0 n.toNat := by
  refine ⟨_, pi_range1 (gl_of o hg) (by rw [o.eG]; exact hm) (pa_cons WE.pe pa_nil (by rw [hs]; rfl)) hs, fun F1 H1 g R q => ?_⟩
  refine h.run F1 H1 g _ fun v F2 H2 g2 r2 => ?_
  cases r2
  exact ⟨n, rfl, by omega, hn.2, q F2 H2 g2⟩
theorem r_n {a : Expr} {n : Nat} {tg : Expr} (o : Ok0 M X N sc) (hm : M.mg "range" = none) (h : XD M X a σ F H (.int (n : Int))) (hn : n ≤ 100000) (hg : sc.names.lookup ("range" : Str) = some .globalImplicit)
    (hs : starEach [a] X.env = [(false, eval a X.env)] := by rfl) : XR X tg (.Call (.Name "range" p) [a] [] pos) σ F H 0 n := by
  have q := r_1 (n := (n : Int)) (p := p) (pos := pos) (tg := tg) o hm h (by omega) hg hs
  rw [show ((n : Int)).toNat = n by omega] at q
  exact q
theorem r_2 {a b : Expr} {lo n : Int} {tg : Expr} (o : Ok0 M X N sc) (hm : M.mg "range" = none) (h : XD M X a σ F H (.int lo)) (h2 : XD M X b σ F H (.int n)) (hn : -(2 ^ 62) ≤ lo ∧ lo < 2 ^ 62 ∧ -(2 ^ 62) ≤ n ∧ n < 2 ^ 62) (hg : sc.names.lookup ("range" : Str) = some .globalImplicit := by decide +kernel)
    (hs : starEach [a, b] X.env = [(false, eval a X.env), (false, eval b X.env)] := by rfl) (hs2 : starEach [b] X.env = [(false, eval b X.env)] := by rfl) : XR X tg (.Call (.Name "range" p) [a, b] [] pos) σ F H lo (n - lo).toNat := by
  refine ⟨_, pi_range2 (gl_of o hg) (by rw [o.eG]; exact hm) (pa_cons WE.pe (pa_cons WE.pe pa_nil (by rw [hs2]; rfl)) (by rw [hs, hs2])) hs hs2, fun F1 H1 g R q => ?_⟩
  refine h.run F1 H1 g _ fun v F2 H2 g2 r2 => ?_
  cases r2
  refine h2.run F2 H2 (g.trans g2) _ fun v F3 H3 g3 r3 => ?_
  cases r3
  exact ⟨lo, n, rfl, hn, q F3 H3 (g2.trans g3)⟩
theorem o_lcX {elt : Expr} {scope : Scope} {ifs : List Expr} (o : Ok M X N sc k) (own : List (Str × Nat)) (j : Nat) {lo : Int} {n : Nat} (p : Nat → Bool) (g : Nat → PyData) (hi : XR X (.Name x tp) iter σ F H lo n) (ok : blkC N sc scope own = true) (hj : j ∈ own.map (·.2)) (hx : N[j]? = some x) (hxl : (relS scope sc).names.lookup x = some .local)
    (hif : ifs = [] ∨ ∃ c, ifs = [c]) (hz : n < 100000) (ht : ∀ i : Nat, i < n → ∀ F1 H1, Grow F H F1 H1 → Blk M X N sc scope k ifs elt ((wipe σ (own.map (·.2))).set j (some (.int (lo + (i : Int))))) F1 H1 (p i) (g i)) (hp : ifs = [] → ∀ z, p z = true)
    (hs : ∀ x, foldedSetIterable iter X.env x = pure x := by intro _; rfl) : XO M X (.ListComp elt [⟨.Name x tp, iter, ifs, 0⟩] scope pos) σ F H (kept (List.range n) p g) := by
  obtain ⟨wi, hpi, run⟩ := hi.ex
  exact o_lcR o own j lo n p g hpi run ok hj hx hxl hif hz ht hp hs
theorem t_forR (o : Ok M X N sc k) (fs : Fs X) (S : Stt M.K F H σ env) (hN : At N j x) {lo : Int} {n : Nat} (hi : XR X (.Name x tp) iter σ F H lo n) (Pv : Nat → Hp → L2.St → Hp → Prop)
    (h0 : ∀ F' H', Grow F H F' H' → Stt M.K F' H' σ env → Pv 0 F' σ H')
    (hs : ∀ i F' σ' H', i < n → Same F F' → Same F' H' → Pv i F' σ' H' → WS X body { D with nx := Nx (Pv (i + 1)) F', ct := Nx (Pv (i + 1)) F', bk := D.nx } (σ'.set j (some (.int (lo + (i : Int))))) H')
    (hd : ∀ F' σ' H', Same F F' → Same F' H' → Pv n F' σ' H' → D.nx σ' H') (hl : locB sc x = true := by decide +kernel) (hf : ∀ x, foldedSetIterable iter X.env x = pure x := by intro _; rfl) : W1 X (.For (.Name x tp) iter body [] pos) D σ H := by
  have hx : L2.Loc X.env.scope x := by
    rw [o.eS]
    exact loc_of hl
  have hG : PG X (.Name x tp) (gName j) := pg_name (by rw [o.eN]; exact o.nd) (by rw [o.eN]; exact hN.get) hx (.inl (fs.fn x))
  obtain ⟨wi, hpi, run⟩ := hi.ex
  refine W1.of (ps_for o.pass o.calm hpi hG WS.ps hf) ?_
  refine run F H (Grow.refl S.le) _ fun F2 H2 g2 => ?_
  refine ⟨fun i m σ' H' => m = n - i ∧ i ≤ n ∧ ∃ F', Same F2 F' ∧ Same F' H' ∧ Pv i F' σ' H', ⟨_, rfl, Nat.zero_le _, F2, Same.refl _, g2.le, h0 F2 H2 g2 (S.grow g2)⟩, ?_⟩
  rintro i m σ' H' ⟨rfl, hi, F', e1, e2, P⟩
  by_cases hlt : i < n
  · refine .inr ⟨hlt, Nx (Pv (i + 1)) F', fun σ'' H'' q => ?_, fun v H'' hv => ?_⟩
    · obtain ⟨F3, c1, c2, P3⟩ := q
      exact ⟨_, by omega, rfl, hlt, F3, e1.trans c1, c2, P3⟩
    · obtain ⟨rfl, rfl⟩ := hv
      exact hs i F' σ' _ hlt (g2.ex.trans e1) e2 P
  · have ei : i = n := Nat.le_antisymm hi (Nat.le_of_not_lt hlt)
    subst ei
    exact .inl ⟨Nat.le_refl _, hd F' σ' H' (g2.ex.trans e1) e2 P⟩
/-- while, by a word W with its measure -/
theorem t_while {c : Expr} (o : Ok M X N sc k) (W : Nat → Hp → L2.St → Hp → Prop) (m0 : Nat) (h0 : W m0 F σ H) (le : Same F H)
    (hs : ∀ m F' σ' H', Same F F' → Same F' H' → W m F' σ' H' → ∃ b, XB M X c σ' F' H' b ∧
      (b = true → ∀ F2 H2, Grow F' H' F2 H2 → WS X body { D with nx := fun σ'' H'' => ∃ m' F3, m' < m ∧ Same F2 F3 ∧ Same F3 H'' ∧ W m' F3 σ'' H'', ct := fun σ'' H'' => ∃ m' F3, m' < m ∧ Same F2 F3 ∧ Same F3 H'' ∧ W m' F3 σ'' H'', bk := D.nx } σ' H2) ∧
      (b = false → ∀ F2 H2, Grow F' H' F2 H2 → D.nx σ' H2)) : W1 X (.While c body [] pos) D σ H := by
  refine W1.of (ps_while o.pass WT.pt WS.ps) ?_
  refine ⟨fun m σ' H' => ∃ F', Same F F' ∧ Same F' H' ∧ W m F' σ' H', ⟨m0, F, Same.refl _, le, h0⟩, ?_⟩
  rintro m σ' H' ⟨F', e1, e2, w⟩
  obtain ⟨b, hb, ht, hf⟩ := hs m F' σ' H' e1 e2 w
  refine hb.run F' H' (Grow.refl e2) _ fun F2 H2 g2 => ?_
  cases b with
  | true =>
    rw [if_pos rfl]
    refine ⟨_, fun σ'' H'' q => ?_, ht rfl F2 H2 g2⟩
    obtain ⟨m', F3, h1, h2, h3, h4⟩ := q
    exact ⟨m', h1, F3, (e1.trans g2.ex).trans h2, h3, h4⟩
  | false =>
    rw [if_neg Bool.false_ne_true]
    exact hf rfl F2 H2 g2
/-! ### one's own list, grown -/
theorem s_append {i : Nat} {l : Addr} {us : List V} {ds : List PyData} {d : PyData} {np ap : Pos} (o : Ok M X N sc k) (S : Stt M.K F H σ env) (hN : At N i x) (hv : σ[i]? = some (some (.ref l))) (hF : F l = none) (hl : H l = some (.lst us)) (r : Dns M.K F us ds) (hz : ds.length < 100000)
    (h : XD M X e σ F H d) (kk : ∀ F' H' us', Grow F H F' H' → F' l = none → Dns M.K F' us' (ds ++ [d]) → D.nx σ (upd H' l (.lst us'))) (hs : visB sc x = true)
    (hst : starEach [e] X.env = (false, eval e X.env) :: starEach [] X.env := by rfl) (hline : (ap.endLine == pos.line) = true := by rfl)
    (hfew : ((backTo pos (starEach [e] X.env)).all (fun x => !x.1) && (backToKw pos (keywordEach [] X.env)).all (fun x => x.1.isSome) && decide ([e].length + ([] : List Keyword).length + (if ([] : List Keyword).isEmpty then 0 else 1) < 30)) = true := by rfl)
    (hpl : (backTo pos (starEach [] X.env)).any (·.1) = false := by rfl) (hd : (x == ("__debug__" : Str)) = false := by decide +kernel) (hcd : (x == ("__classdict__" : Str)) = false := by decide +kernel)
    (hbase : attributeBase (.Name x np) "append" X.env (eval (.Name x np) X.env) = eval (.Name x np) X.env := by rfl) (hsw : swapsWith (.Call (.Attribute (.Name x np) "append" ap) [e] [] pos) none p.line X.env = pure false := by rfl) :
    W1 X (.Expr (.Call (.Attribute (.Name x np) "append" ap) [e] [] pos) p) D σ H := by
  refine s_expr (WE.of (pe_bm PySem.F.plainAttrs_list PySem.F.slot_list_append PySem.F.type_list_append mt_append WE.pe (pa_cons WE.pe pa_nil hst) hbase hfew hline hst hpl) ?_) hsw
  refine we_slot o.toOk0 i hv ?_ hN.get hs hd hcd
  refine ⟨.inl ⟨rfl, _, by rw [o.eK]; exact SqL.of hl⟩, ?_⟩
  refine h.run F H (Grow.refl S.le) _ fun v F2 H2 g2 r2 => ?_
  have hF2 : F2 l = none := g2.new l hF (by rw [hl]; intro z; cases z)
  refine ⟨l, us, v, rfl, rfl, g2.kp _ _ hl, ?_, kk F2 H2 (us ++ [v]) g2 hF2 ((r.mono g2.ex).app (.cons r2 .nil))⟩
  rw [r.len]
  exact Nat.lt_of_lt_of_le hz (by decide)
theorem s_extend {i : Nat} {l : Addr} {us : List V} {ds ds2 : List PyData} {np ap : Pos} (o : Ok M X N sc k) (S : Stt M.K F H σ env) (hN : At N i x) (hv : σ[i]? = some (some (.ref l))) (hF : F l = none) (hl : H l = some (.lst us)) (r : Dns M.K F us ds) (hz : ds.length + ds2.length < 100000)
    (h : XO M X e σ F H ds2) (kk : ∀ F' H' us', Grow F H F' H' → F' l = none → Dns M.K F' us' (ds ++ ds2) → D.nx σ (upd H' l (.lst us'))) (hs : visB sc x = true)
    (hst : starEach [e] X.env = (false, eval e X.env) :: starEach [] X.env := by rfl) (hline : (ap.endLine == pos.line) = true := by rfl)
    (hfew : ((backTo pos (starEach [e] X.env)).all (fun x => !x.1) && (backToKw pos (keywordEach [] X.env)).all (fun x => x.1.isSome) && decide ([e].length + ([] : List Keyword).length + (if ([] : List Keyword).isEmpty then 0 else 1) < 30)) = true := by rfl)
    (hpl : (backTo pos (starEach [] X.env)).any (·.1) = false := by rfl) (hd : (x == ("__debug__" : Str)) = false := by decide +kernel) (hcd : (x == ("__classdict__" : Str)) = false := by decide +kernel)
    (hbase : attributeBase (.Name x np) "extend" X.env (eval (.Name x np) X.env) = eval (.Name x np) X.env := by rfl) (hsw : swapsWith (.Call (.Attribute (.Name x np) "extend" ap) [e] [] pos) none p.line X.env = pure false := by rfl) :
    W1 X (.Expr (.Call (.Attribute (.Name x np) "extend" ap) [e] [] pos) p) D σ H := by
  refine s_expr (WE.of (pe_bm PySem.F.plainAttrs_list PySem.F.slot_list_extend PySem.F.type_list_extend mt_extend WE.pe (pa_cons WE.pe pa_nil hst) hbase hfew hline hst hpl) ?_) hsw
  refine we_slot o.toOk0 i hv ?_ hN.get hs hd hcd
  refine ⟨.inl ⟨rfl, _, by rw [o.eK]; exact SqL.of hl⟩, ?_⟩
  refine h.run F H (Grow.refl S.le) _ fun q vs F2 H2 g2 hq hq0 hq2 r2 => ?_
  have hF2 : F2 l = none := g2.new l hF (by rw [hl]; intro z; cases z)
  refine ⟨l, q, us, vs, rfl, rfl, g2.kp _ _ hl, hq2, ?_, kk F2 H2 (us ++ vs) g2 hF2 ((r.mono g2.ex).app r2)⟩
  rw [r.len, r2.len]
  exact Nat.le_of_lt (Nat.lt_of_lt_of_le hz (by decide))
end
end Lay

/-! Lay5: constants of the module, states forgotten, more rules. -/
namespace Lay
open PySem L2

/-- a constant of the module -/
structure Gc (M : Md) (x : Str) (d : PyData) : Prop where
  ex : ∃ (v : V) (u : Value), M.mg x = some u ∧ RelV v u ∧ ∀ F, Dn M.K F v d
section
variable {M : Md} {X : Cx} {N : List Str} {sc : Scope} {k j : Nat} {σ : L2.St} {env env' : List (Option PyData)} {F H G J : Hp} {d : PyData} {ds : List PyData} {e a b : Expr} {pos p : Pos} {x : Str}
theorem x_const (o : Ok M X N sc k) (h : Gc M x d) (hg : sc.names.lookup x = some .globalImplicit) (hd : (x == ("__debug__" : Str)) = false) : XD M X (.Name x pos) σ F H d := by
  obtain ⟨v, u, h1, h2, h3⟩ := h.ex
  exact x_glob o.toOk0 h1 h2 (h3 F) hg hd
theorem Stt.forget {K : PySem.W.Frag} (S : Stt K F H σ env) (hl : env'.length = env.length) (h : ∀ (i : Nat) (d : PyData), env'[i]? = some (some d) → env[i]? = some (some d)) : Stt K F H σ env' :=
  ⟨S.le, fun i d q => S.sl i d (h i d q), hl.trans S.ln⟩
/-- the last slots forgotten, one after the other: each place of env' is none or that of env -/
def leB : List (Option PyData) → List (Option PyData) → Prop
  | [], [] => True
  | a :: r, b :: s => (a = none ∨ a = b) ∧ leB r s
  | _, _ => False
theorem leB_len : ∀ {a b : List (Option PyData)}, leB a b → a.length = b.length
  | [], [], _ => rfl
  | _ :: _, _ :: _, h => congrArg (· + 1) (leB_len h.2)
  | [], _ :: _, h => h.elim
  | _ :: _, [], h => h.elim
theorem leB_get : ∀ {a b : List (Option PyData)} {i : Nat} {d : PyData}, leB a b → a[i]? = some (some d) → b[i]? = some (some d)
  | [], _, _, _, _, q => by simp at q
  | _ :: _, [], _, _, h, _ => h.elim
  | x :: r, y :: s, 0, d, h, q => by
    simp at q
    subst q
    rcases h.1 with z | z
    · cases z
    · rw [← z]
      rfl
  | x :: r, y :: s, i + 1, d, h, q => by
    have := leB_get (i := i) h.2 (by simpa using q)
    simpa using this
theorem Stt.less {K : PySem.W.Frag} (S : Stt K F H σ env) (h : leB env' env) : Stt K F H σ env' := S.forget (leB_len h) fun _ _ q => leB_get h q
theorem cut_none {ns : List PyData} (i : Nat) (h : i ≤ ns.length) : cutD ns none (some (i : Int)) = ns.take i := by
  unfold cutD
  rw [HT.sIx_none, HT.sIx_nat, Nat.min_eq_left h]
  simp
theorem cut_from {ns : List PyData} (i : Nat) (h : i ≤ ns.length) : cutD ns (some (i : Int)) none = ns.drop i := by
  unfold cutD
  rw [HT.sIx_none, HT.sIx_nat, Nat.min_eq_left h]
  have : (ns.drop i).length = ns.length - i := List.length_drop
  rw [List.take_of_length_le (by omega)]
theorem strEq_rule {y z : Str} : ∀ v w F1 H1, Grow F H F1 H1 → Dn M.K H1 v (.str y) → Dn M.K H1 w (.str z) → ∀ Q : VK, (∀ F' H', Grow F1 H1 F' H' → Q (.bl (decide (y = z))) H') → rEq v w H1 Q := fun v w F1 H1 g rx ry Q q => by
  cases rx
  cases ry
  refine ⟨rfl, ?_⟩
  have e : decide (V.str y = V.str z) = decide (y = z) := by
    by_cases h : y = z
    · subst h
      simp
    · rw [decide_eq_false h, decide_eq_false (fun z => h (V.str.inj z))]
  rw [e]
  exact q F1 H1 (Grow.refl g.le)
theorem strNe_rule {y z : Str} : ∀ v w F1 H1, Grow F H F1 H1 → Dn M.K H1 v (.str y) → Dn M.K H1 w (.str z) → ∀ Q : VK, (∀ F' H', Grow F1 H1 F' H' → Q (.bl (!decide (y = z))) H') → rNe v w H1 Q := fun v w F1 H1 g rx ry Q q => by
  cases rx
  cases ry
  refine ⟨rfl, ?_⟩
  have e : decide (V.str y = V.str z) = decide (y = z) := by
    by_cases h : y = z
    · subst h
      simp
    · rw [decide_eq_false h, decide_eq_false (fun z => h (V.str.inj z))]
  rw [e]
  exact q F1 H1 (Grow.refl g.le)
theorem b_eqS {y z : Str} (ha : XH M X a σ F H (.str y)) (hb : XH M X b σ F H (.str z)) : XB M X (.Compare a [.Eq] [b] pos) σ F H (decide (y = z)) := b_cmp op_eq (nomark _) ha hb strEq_rule
theorem b_neS {y z : Str} (ha : XH M X a σ F H (.str y)) (hb : XH M X b σ F H (.str z)) : XB M X (.Compare a [.NotEq] [b] pos) σ F H (!decide (y = z)) := b_cmp op_ne (nomark _) ha hb strNe_rule
theorem x_eqS {y z : Str} (ha : XH M X a σ F H (.str y)) (hb : XH M X b σ F H (.str z)) : XD M X (.Compare a [.Eq] [b] pos) σ F H (.bool (decide (y = z))) := x_cmp op_eq (nomark _) ha hb strEq_rule
theorem x_neS {y z : Str} (ha : XH M X a σ F H (.str y)) (hb : XH M X b σ F H (.str z)) : XD M X (.Compare a [.NotEq] [b] pos) σ F H (.bool (!decide (y = z))) := x_cmp op_ne (nomark _) ha hb strNe_rule
/-! ### equality of data that is often met -/
theorem eqv_int (i j : Int) : PyData.eqv (.int i) (.int j) = (i == j) := rfl
theorem eqv_ints : ∀ (a b : List Int), PyData.eqvAll (a.map PyData.int) (b.map PyData.int) = (a == b)
  | [], [] => rfl
  | [], _ :: _ => rfl
  | _ :: _, [] => rfl
  | x :: a, y :: b => by
    show (x == y && PyData.eqvAll (a.map PyData.int) (b.map PyData.int)) = _
    rw [eqv_ints a b]
    rfl
theorem eqv_bools : ∀ (a b : List Bool), PyData.eqvAll (a.map PyData.bool) (b.map PyData.bool) = (a == b)
  | [], [] => rfl
  | [], _ :: _ => rfl
  | _ :: _, [] => rfl
  | x :: a, y :: b => by
    show (x == y && PyData.eqvAll (a.map PyData.bool) (b.map PyData.bool)) = _
    rw [eqv_bools a b]
    rfl
/-- lists and tuples of data without depth -/
def flatD : PyData → Bool
  | .none => true
  | .bool _ => true
  | .int _ => true
  | .str x => (PyData.str x).canLay0
  | _ => false
theorem flat_can : ∀ {ds : List PyData}, (∀ d ∈ ds, flatD d = true) → PyData.canLayAll0 ds = true ∧ PyData.depthAll ds = 0
  | [], _ => ⟨rfl, rfl⟩
  | d :: r, h => by
    obtain ⟨h1, h2⟩ := flat_can fun x hx => h x (List.mem_cons_of_mem _ hx)
    have hd := h d List.mem_cons_self
    have c1 : d.canLay0 = true := by
      cases d <;> first | rfl | exact hd | (exfalso; exact Bool.noConfusion hd)
    have c2 : d.depth = 0 := by
      cases d <;> first | rfl | (exfalso; exact Bool.noConfusion hd)
    refine ⟨?_, ?_⟩
    · show (d.canLay0 && PyData.canLayAll0 r) = true
      rw [h1, c1]
      rfl
    · show max d.depth (PyData.depthAll r) = 0
      rw [h2, c2]
      rfl
theorem pl_list {ds : List PyData} (h : ∀ d ∈ ds, flatD d = true) : Pl (.list ds) := by
  obtain ⟨h1, h2⟩ := flat_can h
  show ((PyData.list ds).canLay0 && decide ((PyData.list ds).depth ≤ 64)) = true
  have e1 : (PyData.list ds).canLay0 = PyData.canLayAll0 ds := rfl
  have e2 : (PyData.list ds).depth = PyData.depthAll ds + 1 := rfl
  rw [e1, e2, h1, h2]
  rfl
theorem pl_ints (ns : List Int) : Pl (.list (ns.map PyData.int)) := pl_list fun d hd => by
  obtain ⟨n, _, rfl⟩ := List.mem_map.mp hd
  rfl
theorem pl_bools (ns : List Bool) : Pl (.list (ns.map PyData.bool)) := pl_list fun d hd => by
  obtain ⟨n, _, rfl⟩ := List.mem_map.mp hd
  rfl
end
end Lay
namespace Lay
open PySem L2
section
variable {M : Md} {X : Cx} {σ : L2.St} {F H : Hp} {a b c : Expr} {pos : Pos} {i j l : Int}
theorem b_lele (ha : XD M X a σ F H (.int i)) (hb : XD M X b σ F H (.int j)) (hc : XD M X c σ F H (.int l)) (hm : lastMarks [.LtE, .LtE] [b, c] = false := by with_unfolding_all rfl) : XB M X (.Compare a [.LtE, .LtE] [b, c] pos) σ F H (decide (i ≤ j) && decide (j ≤ l)) :=
  b_chain (g := fun i j => decide (i ≤ j)) (g' := fun i j => decide (i ≤ j)) op_le op_le ha hb hc hm
theorem b_lelt (ha : XD M X a σ F H (.int i)) (hb : XD M X b σ F H (.int j)) (hc : XD M X c σ F H (.int l)) (hm : lastMarks [.LtE, .Lt] [b, c] = false := by with_unfolding_all rfl) : XB M X (.Compare a [.LtE, .Lt] [b, c] pos) σ F H (decide (i ≤ j) && decide (j < l)) :=
  b_chain (g := fun i j => decide (i ≤ j)) (g' := fun i j => decide (i < j)) op_le op_lt ha hb hc hm
theorem x_lele (ha : XD M X a σ F H (.int i)) (hb : XD M X b σ F H (.int j)) (hc : XD M X c σ F H (.int l)) (hm : lastMarks [.LtE, .LtE] [b, c] = false := by with_unfolding_all rfl) : XD M X (.Compare a [.LtE, .LtE] [b, c] pos) σ F H (.bool (decide (i ≤ j) && decide (j ≤ l))) :=
  x_chain (g := fun i j => decide (i ≤ j)) (g' := fun i j => decide (i ≤ j)) op_le op_le ha hb hc hm
end
end Lay

/-! Lay6: try .. except X as n; isinstance of the caught error; raising calls. -/
namespace Lay
open PySem L2
section
variable {M : Md} {X : Cx} {N : List Str} {sc : Scope} {k j i : Nat} {σ : L2.St} {env : List (Option PyData)} {F H : Hp} {d : PyData} {ds : List PyData} {e : Expr} {es : List Expr} {body suite : List Stmt} {b0 : Stmt} {D : Ends} {pos p np pos' : Pos} {x n : Str} {sp : Sp} {R : List PyData → Out → Prop} {Q : VK} {E : XK} {W : WX}
/-- a call that may raise; the wish of errors leans on the slots -/
theorem we_callX (o : Ok M X N sc k) (fc : Fc M (L2.CX M.P M.w) x j sp) (hj : j ≤ k) (tk : Takes X W) (h : WA X (e :: es) σ H fun vs H1 => sp vs H1 Q fun cls d H' => W cls d σ H') (hg : sc.names.lookup x = some .globalImplicit)
    (hdb : (x == ("__debug__" : Str)) = false) (he : starEach (e :: es) X.env = (false, eval e X.env) :: starEach es X.env := by rfl) (hpl : (backTo pos (starEach es X.env)).any (·.1) = false := by rfl) :
    WE X (.Call (.Name x p) (e :: es) [] pos) σ H Q := by
  obtain ⟨f, fd, ps, gm, kp, bd, ok⟩ := fc.ex
  rw [← o.eP, ← o.eW, ← o.eK, ← o.eG, ← o.eB] at ok
  exact WE.of (pe_callS (E := L2.WE W) ok (o.room.mono hj) (gl_of o.toOk0 hg) (by rw [o.eG]; exact gm) (by rw [o.eK]; exact kp) (by rw [o.eK]; exact bd) (fun τ => passAt tk τ) WA.pa hdb he hpl) h
/-- what a raised class leads to, at the state behind the arguments -/
def EndsIn (M : Md) (W : WX) (σ : L2.St) (F H : Hp) (Q : VK) : Out → Prop
  | .val d => ∀ v F' H', Grow F H F' H' → Dn M.K F' v d → Q v H'
  | .own ds => ∀ p vs F' H', Grow F H F' H' → F' p = none → H p = none → H' p = some (.lst vs) → Dns M.K F' vs ds → Q (.ref p) H'
  | .err C => ∀ F' H', Grow F H F' H' → W (.ref C) none σ H'
  | .dct w P => ∀ m p F' H', P m → Grow F H F' H' → F' p = none → H p = none → Dk M.K w F' H' p m → Q (.ref p) H'
  | .pair ds d => ∀ p l us v F' H', Grow F H F' H' → F' p = none → H p = none → F' l = none → H l = none → p ≠ l → H' p = some (.tup [.ref l, v]) → H' l = some (.lst us) → Dns M.K F' us ds → Dn M.K F' v d → Q (.ref p) H'
theorem x_callX {r : Out} (o : Ok M X N sc k) (fc : Fc M (L2.CX M.P M.w) x j (spG M.K R)) (tk : Takes X W) (le : Same F H) (ha : XA M X (e :: es) σ F H ds) (hr : R ds r) (kk : EndsIn M W σ F H Q r) (hj : j ≤ k) (hg : sc.names.lookup x = some .globalImplicit)
    (hdb : (x == ("__debug__" : Str)) = false := by decide +kernel) (he : starEach (e :: es) X.env = (false, eval e X.env) :: starEach es X.env := by rfl) (hpl : (backTo pos (starEach es X.env)).any (·.1) = false := by rfl) :
    WE X (.Call (.Name x p) (e :: es) [] pos) σ H Q := by
  refine we_callX o fc hj tk (ha.run F H (Grow.refl le) _ fun vs F2 H2 g2 r2 => ⟨F2, ds, r, g2.le, r2, hr, ?_⟩) hg hdb he hpl
  cases r with
  | val d => exact fun v F' H' g' r' => kk v F' H' (g2.trans g') r'
  | own ds => exact fun l vs F' H' g' h1 h2 h3 r' => kk l vs F' H' (g2.trans g') h1 (g2.kp.free h2) h3 r'
  | err C => exact fun F' H' g' => kk F' H' (g2.trans g')
  | dct w P => exact fun m p F' H' hm g' h1 h2 h3 => kk m p F' H' hm (g2.trans g') h1 (g2.kp.free h2) h3
  | pair ds d => exact fun p l us v F' H' g' h1 h2 h3 h4 => kk p l us v F' H' (g2.trans g') h1 (g2.kp.free h2) h3 (g2.kp.free h4)
/-- in a def that lets its own errors out, W being the wish E -/
theorem Done.ends {r : Out} (h : Done M.K F H Q E r) : EndsIn M (fun cls d _ H => E cls d H) σ F H Q r := by
  cases r with
  | val d => exact h
  | own ds => exact h
  | err C => exact h
  | dct w P => exact h
  | pair ds d => exact h

/-! ### try .. except x as n -/
theorem Ok.tr (o : Ok M X N sc k) {pn : List (Addr × Obj)} {xe : Value → Shared → Prop} (h : PassesOwn (model X.prog X.w) X.A X.env xe) : Ok M (X.tr pn xe) N sc k :=
  ⟨⟨o.eP, o.eW, o.eK, o.eG, o.eB, o.eN, o.eS, o.nd⟩, o.calm, o.room, h⟩
theorem Fs.tr (o : Fs X) {pn : List (Addr × Obj)} {xe : Value → Shared → Prop} : Fs (X.tr pn xe) := ⟨o.fn, o.stk, o.frm⟩
theorem Ok0.toSu (o : Ok0 M X N sc) {a : Addr} {pn : List (Addr × Obj)} : Ok0 M (X.suite a pn) N sc := ⟨o.eP, o.eW, o.eK, o.eG, o.eB, o.eN, o.eS, o.nd⟩
theorem Fs.toSu (o : Fs X) {a : Addr} {pn : List (Addr × Obj)} : Fs (X.suite a pn) := ⟨o.fn, o.stk, o.frm⟩
/-- one stands in an except suite, the error at a, of the class cls -/
structure Suite (M : Md) (Z : Cx) (N : List Str) (sc : Scope) (a : Addr) (cls : Value) (d : Option Addr) : Prop where
  ok : Ok0 M Z N sc
  fs : Fs Z
  ex : ∃ (Y : Cx) (oe : Obj) (pn : List (Addr × Obj)), Z = Y.suite a ((a, oe) :: pn) ∧ Zc cls d oe ∧ ∃ vs, oe.data = .fields vs
def ends1 (D : Ends) (i : Nat) : Ends := { nx := fun σ' H' => D.nx (σ'.set i none) H', rt := D.rt, bk := fun σ' H' => D.bk (σ'.set i none) H', ct := fun σ' H' => D.ct (σ'.set i none) H' }
theorem t_try {c : Value} (o : Ok M X N sc k) (fs : Fs X) (hN : At N i n) (hl : sc.names.lookup n = some .local) (hx : sc.names.lookup x = some .globalImplicit) (hdb : (x == ("__debug__" : Str)) = false) (hm : M.mg x = some c)
    (hb : ∀ (W : WX), (∀ (C : Addr) σ' H', PySem.W.exmOne M.K (.ref C) c = some true → (∀ (Z : Cx) a, H' a = none → Suite M Z N sc a (.ref C) none → WS Z (b0 :: suite) (ends1 D i) (σ'.set i (some (.ref a))) H') → W (.ref C) none σ' H') →
      ∀ Y : Cx, Ok M Y N sc k → Fs Y → Takes Y W → WS Y body D σ H) :
    W1 X (.Try body [.ExceptHandler (some (.Name x np)) (some n) (b0 :: suite) pos'] [] [] pos) D σ H := by
  have hnames : Names X x c := ⟨gl_of o.toOk0 hx, hdb, .inl (by rw [o.eG]; exact hm)⟩
  have hkind : X.env.kindOf n = some .local := by
    unfold Env.kindOf
    rw [o.eS]
    exact hl
  refine W1.of (ps_try_as (i := i) (c := c) (Wout := fun _ _ _ _ => False)
    (tb := fun W D σ H => ∀ (pn : List (Addr × Obj)) (xe : Value → Shared → Prop), Takes (X.tr pn xe) W → PassesOwn (model X.prog X.w) X.A X.env xe → WS (X.tr pn xe) body D σ H)
    (ts := fun a cls d D σ H => ∀ (oe : Obj) (pn : List (Addr × Obj)), Zc cls d oe → (∃ vs, oe.data = .fields vs) → WS (X.suite a ((a, oe) :: pn)) (b0 :: suite) D σ H)
    fs.stk fs.frm (by rw [o.eN]; exact o.nd) (by rw [o.eN]; exact hN.get) hkind hnames takes0 (fun W pn xe tk po => ⟨fun pins s σ H D I h => (h pn xe tk po).run pins s I⟩) (fun a oe cls d pn hz hf => ⟨fun pins s σ H D I h => (h oe pn hz hf).run pins s I⟩)) ?_
  intro pn xe tk po
  refine hb _ (fun C σ' H' ex suite_ok => ?_) _ (o.tr po) fs.tr tk
  refine ⟨true, by rw [o.eK]; exact ex, fun _ a ha oe pn' hz hf => ?_, fun q => Bool.noConfusion q⟩
  exact suite_ok _ a ha ⟨o.toOk0.toSu, fs.toSu, X, oe, pn', rfl, hz, hf⟩
/-- isinstance(n, C), n the caught error, of the class at C0 -/
theorem x_isE {Z : Cx} {a C0 C : Addr} {b : Bool} {pC : Pos} (su : Suite M Z N sc a (.ref C0) none) (ec : ExcC M.K C0) (hm : M.mg "isinstance" = none) (i : Nat) (hN : N[i]? = some n) (hv : σ[i]? = some (some (.ref a))) (hC : M.mg x = some (.ref C))
    (kt : PySem.W.kitOne M.K (.ref C0) (.ref C) = some b) (hg : sc.names.lookup ("isinstance" : Str) = some .globalImplicit) (hgC : sc.names.lookup x = some .globalImplicit) (hs : nameB sc n = true) (hdb : (x == ("__debug__" : Str)) = false)
    (he : starEach [.Name n np, .Name x pC] Z.env = (false, eval (.Name n np) Z.env) :: starEach [.Name x pC] Z.env := by rfl) (he2 : starEach [.Name x pC] Z.env = (false, eval (.Name x pC) Z.env) :: starEach [] Z.env := by rfl) (hpl : (backTo pos (starEach [.Name x pC] Z.env)).any (·.1) = false := by rfl) :
    XD M Z (.Call (.Name "isinstance" p) [.Name n np, .Name x pC] [] pos) σ F H (.bool b) := by
  refine ⟨fun F1 H1 g Q q => ?_⟩
  have o := su.ok
  obtain ⟨Y, oe, pn, e1, hz, hf⟩ := su.ex
  unfold nameB at hs
  simp only [Bool.and_eq_true, Bool.not_eq_true'] at hs
  have hc : CallR Z (.builtin "isinstance") (rIsE Z.K C0 a) := by
    rw [e1]
    have ec' : ExcC Y.K C0 := by
      have : Y.K = M.K := by
        have := o.eK
        rw [e1] at this
        exact this
      rw [this]
      exact ec
    exact call_isE ec' hz hf
  refine WE.of (pe_callB hc (gl_of o hg) (by rw [o.eG]; exact hm) PyProof.Rows.boot_isinstance (pa_cons WE.pe (pa_cons (pe_glob (v := .ref C) (gl_of o hgC) (by rw [o.eG]; exact hC) rfl hdb) pa_nil he2) he) (by decide +kernel) (by decide +kernel) he hpl) ?_
  refine we_slot o i hv ?_ hN hs.1.1 hs.1.2 hs.2
  exact ⟨.ref C, .ref C, b, rfl, fun u r => r, by rw [o.eK]; exact kt, q _ F1 H1 (Grow.refl g.le) (.bl b)⟩
theorem x_isEB {Z : Cx} {a C0 : Addr} {T' : String} {b : Bool} {pC : Pos} (su : Suite M Z N sc a (.ref C0) none) (ec : ExcC M.K C0) (hm : M.mg "isinstance" = none) (i : Nat) (hN : N[i]? = some n) (hv : σ[i]? = some (some (.ref a))) (hC : M.mg x = none) (hbt : bootBuiltins x = some (.type T'))
    (kt : PySem.W.kitOne M.K (.ref C0) (.type T') = some b) (hg : sc.names.lookup ("isinstance" : Str) = some .globalImplicit) (hgC : sc.names.lookup x = some .globalImplicit) (hs : nameB sc n = true) (hnn : x ≠ "__name__") (hdb : (x == ("__debug__" : Str)) = false)
    (he : starEach [.Name n np, .Name x pC] Z.env = (false, eval (.Name n np) Z.env) :: starEach [.Name x pC] Z.env := by rfl) (he2 : starEach [.Name x pC] Z.env = (false, eval (.Name x pC) Z.env) :: starEach [] Z.env := by rfl) (hpl : (backTo pos (starEach [.Name x pC] Z.env)).any (·.1) = false := by rfl) :
    XD M Z (.Call (.Name "isinstance" p) [.Name n np, .Name x pC] [] pos) σ F H (.bool b) := by
  refine ⟨fun F1 H1 g Q q => ?_⟩
  have o := su.ok
  obtain ⟨Y, oe, pn, e1, hz, hf⟩ := su.ex
  unfold nameB at hs
  simp only [Bool.and_eq_true, Bool.not_eq_true'] at hs
  have hc : CallR Z (.builtin "isinstance") (rIsE Z.K C0 a) := by
    rw [e1]
    have ec' : ExcC Y.K C0 := by
      have : Y.K = M.K := by
        have := o.eK
        rw [e1] at this
        exact this
      rw [this]
      exact ec
    exact call_isE ec' hz hf
  refine WE.of (pe_callB hc (gl_of o hg) (by rw [o.eG]; exact hm) PyProof.Rows.boot_isinstance (pa_cons WE.pe (pa_cons (pe_bltn (v := .ty T') (gl_of o hgC) (by rw [o.eG]; exact hC) hbt rfl hnn hdb) pa_nil he2) he) (by decide +kernel) (by decide +kernel) he hpl) ?_
  refine we_slot o i hv ?_ hN hs.1.1 hs.1.2 hs.2
  exact ⟨.ty T', .type T', b, rfl, fun u r => r, by rw [o.eK]; exact kt, q _ F1 H1 (Grow.refl g.le) (.bl b)⟩
end
end Lay

namespace Lay
open PySem L2
theorem kt_ii : kitB "int" "int" = some true := by decide +kernel
theorem kt_ib : kitB "int" "bool" = some false := by decide +kernel
theorem kt_tt : kitB "tuple" "tuple" = some true := by decide +kernel
theorem kt_bb : kitB "bool" "bool" = some true := by decide +kernel
theorem kt_ll : kitB "list" "list" = some true := by decide +kernel
theorem kt_ss : kitB "str" "str" = some true := by decide +kernel
theorem kt_bi : kitB "bool" "int" = some true := by decide +kernel
end Lay

/-! Lay7: one's own lists; tuples put together, cut; x in a list; tuples unpacked. -/
namespace Lay
open PySem L2

/-- one's own list at l, made since F0, H0 -/
structure Ow (K : PySem.W.Frag) (F0 H0 F H : Hp) (l : Addr) (ds : List PyData) : Prop where
  g : Grow F0 H0 F H
  fF : F l = none
  fH : H0 l = none
  at' : ∃ us, H l = some (.lst us) ∧ Dns K F us ds
section
variable {K : PySem.W.Frag} {F0 H0 F H G J : Hp} {l : Addr} {ds ds' : List PyData} {d : PyData} {σ : L2.St} {env : List (Option PyData)}
theorem ow_new (g : Grow F0 H0 G J) (hG : G l = none) (h0 : H0 l = none) {us : List V} (hJ : J l = some (.lst us)) (r : Dns K G us ds) : Ow K F0 H0 G J l ds := ⟨g, hG, h0, us, hJ, r⟩
theorem Ow.grow (w : Ow K F0 H0 F H l ds) (g : Grow F H G J) : Ow K F0 H0 G J l ds := by
  obtain ⟨us, h1, h2⟩ := w.at'
  refine ⟨w.g.trans g, g.new l w.fF (by rw [h1]; intro z; cases z), w.fH, us, g.kp _ _ h1, h2.mono g.ex⟩
theorem Ow.le (w : Ow K F0 H0 F H l ds) : Same F H := w.g.le
/-- it is changed -/
theorem Ow.set (w : Ow K F0 H0 F H l ds) {us' : List V} (r : Dns K F us' ds') : Ow K F0 H0 F (upd H l (.lst us')) l ds' := ⟨w.g.set w.fF w.fH, w.fF, w.fH, us', upd_same, r⟩
theorem same_own (le : Same F H) (hF : F l = none) {o : HO} : Same F (upd H l o) := fun b u e => by
  rw [upd_ne (ne_of_none e hF)]
  exact le b u e
theorem Stt.own (S : Stt K F H σ env) (hF : F l = none) {o : HO} : Stt K F (upd H l o) σ env := ⟨same_own S.le hF, S.sl, S.ln⟩
theorem Stt.put (S : Stt K F H σ env) {i : Nat} {v : V} : Stt K F H (σ.set i (some v)) (env.set i none) := S.lose
/-- F and one's own list, for a while -/
theorem grow_under {u : HO} (g : Grow F H G J) (hF : F l = none) (hH : H l = some u) : Grow (upd F l u) H (upd G l u) J := by
  have hne : H l ≠ none := by rw [hH]; intro z; cases z
  have hG := g.new l hF hne
  have hJ : J l = some u := g.kp _ _ hH
  refine ⟨fun b o e => ?_, fun b o e => ?_, g.kp, fun b h1 h2 => ?_⟩
  · by_cases hb : b = l
    · subst hb
      rw [upd_same] at e ⊢
      exact e
    · rw [upd_ne hb] at e ⊢
      exact g.ex b o e
  · by_cases hb : b = l
    · subst hb
      rw [upd_same] at e
      rw [hJ]
      exact e
    · rw [upd_ne hb] at e
      exact g.le b o e
  · by_cases hb : b = l
    · subst hb
      rw [upd_same] at h1
      cases h1
    · rw [upd_ne hb] at h1 ⊢
      exact g.new b h1 h2
theorem under_back {u : HO} {F' H' : Hp} (le : Same G J) (hG : G l = none) (g : Grow (upd G l u) J F' H') : Grow G J G H' :=
  ⟨Same.refl G, fun b o e => g.le b o (g.ex b o (by rw [upd_ne (ne_of_none e hG)]; exact e)), g.kp, fun b h1 _ => h1⟩
theorem same_under {u : HO} (hF : F l = none) : Same F (upd F l u) := fun b o e => by
  rw [upd_ne (ne_of_none e hF)]
  exact e
theorem Stt.under (S : Stt K F H σ env) {us : List V} (hF : F l = none) (hH : H l = some (.lst us)) : Stt K (upd F l (.lst us)) H σ env :=
  ⟨fun b o e => by
    by_cases hb : b = l
    · subst hb
      rw [upd_same] at e
      rw [hH]
      exact e
    · rw [upd_ne hb] at e
      exact S.le b o e, S.sl.mono (same_under hF), S.ln⟩
/-- the slot that holds it, seen as data -/
theorem Stt.seen (S : Stt K F H σ env) {us : List V} {i : Nat} (hF : F l = none) (hH : H l = some (.lst us)) (r : Dns K F us ds) (hv : σ[i]? = some (some (.ref l))) : Stt K (upd F l (.lst us)) H σ (env.set i (some (.list ds))) := by
  have S' := (S.under hF hH).set (i := i) (v := .ref l) (d := .list ds) (.lst upd_same (r.mono (same_under hF)))
  have e : σ.set i (some (.ref l)) = σ := by
    apply List.ext_getElem?
    intro j
    by_cases hj : i = j
    · subst hj
      have hlt := (List.getElem?_eq_some_iff.mp hv).1
      rw [List.getElem?_set_self hlt, hv]
    · rw [List.getElem?_set_ne hj]
  rw [e] at S'
  exact S'
end
section
variable {M : Md} {X : Cx} {N : List Str} {sc : Scope} {k j i : Nat} {σ : L2.St} {env : List (Option PyData)} {F0 H0 F H : Hp} {d : PyData} {ds ds1 ds2 : List PyData} {e a b : Expr} {es : List Expr} {D : Ends} {pos p p2 np ap : Pos} {x : Str} {l : Addr} {Q : VK} {E : XK} {lo hi : Option Expr} {vlo vhi : Option Int}
/-- a test while one's own list stands for good -/
theorem XB.under {u : HO} {c : Bool} (hF : F l = none) (hH : H l = some u) (h : XB M X e σ (upd F l u) H c) : XB M X e σ F H c := by
  refine ⟨fun F1 H1 g Q q => ?_⟩
  have hne : H l ≠ none := by rw [hH]; intro z; cases z
  refine h.run _ H1 (grow_under g hF hH) Q fun F' H' g' => q F1 H' (under_back g.le (g.new l hF hne) g')
/-- data without depth -/
def bareD : PyData → Bool
  | .none => true
  | .bool _ => true
  | .int _ => true
  | .str _ => true
  | _ => false
theorem Dn.bare {K : PySem.W.Frag} {G J : Hp} {v : V} (r : Dn K G v d) (hd : bareD d = true) : Dn K J v d := by
  cases r with
  | non => exact .non
  | bl b => exact .bl b
  | int i => exact .int i
  | str x => exact .str x
  | lst _ _ => cases hd
  | tup _ _ => cases hd
  | scr _ => cases hd
theorem XD.under {u : HO} (hF : F l = none) (hH : H l = some u) (hd : bareD d = true) (h : XD M X e σ (upd F l u) H d) : XD M X e σ F H d := by
  refine ⟨fun F1 H1 g Q q => ?_⟩
  have hne : H l ≠ none := by rw [hH]; intro z; cases z
  refine h.run _ H1 (grow_under g hF hH) Q fun v F' H' g' r => q v F1 H' (under_back g.le (g.new l hF hne) g') (r.bare hd)
theorem x_own (o : Ok0 M X N sc) (w : Ow M.K F0 H0 F H l ds) (hN : At N i x) (hv : σ[i]? = some (some (.ref l))) (hs : nameB sc x = true) : XH M X (.Name x pos) σ F H (.list ds) := by
  unfold nameB at hs
  simp only [Bool.and_eq_true, Bool.not_eq_true'] at hs
  refine ⟨fun F1 H1 g Q q => ?_⟩
  obtain ⟨us, h1, h2⟩ := (w.grow g).at'
  exact we_slot o i hv (q _ F1 H1 (Grow.refl g.le) (.lst h1 (h2.mono g.le))) hN.get hs.1.1 hs.1.2 hs.2
/-- an item of one's own list -/
theorem x_ixO (o : Ok0 M X N sc) (w : Ow M.K F0 H0 F H l ds) (hN : At N i x) (hv : σ[i]? = some (some (.ref l))) (hs : nameB sc x = true) {z : Int} (hb : XD M X b σ F H (.int z)) (hd : atI ds z = some d) (hp : PlainIx b := by exact fun _ _ => rfl) : XD M X (.Subscript (.Name x np) b pos) σ F H d := by
  unfold nameB at hs
  simp only [Bool.and_eq_true, Bool.not_eq_true'] at hs
  refine ⟨fun F1 H1 g Q q => ?_⟩
  refine WE.of (pe_ix ix_list WE.pe WE.pe hp) ?_
  refine we_slot o i hv ?_ hN.get hs.1.1 hs.1.2 hs.2
  refine hb.run F1 H1 g _ fun y F3 H3 g3 r3 => ?_
  cases r3
  obtain ⟨us, h1, s⟩ := ((w.grow g).grow g3).at'
  unfold atI at hd
  cases e : ixN ds.length z with
  | none =>
    rw [e] at hd
    cases hd
  | some j =>
    rw [e] at hd
    obtain ⟨v, e1, r⟩ := s.get hd
    refine ⟨l, us, z, v, rfl, rfl, SqL.of h1, ?_, q v F3 H3 g3 r⟩
    unfold atI
    rw [s.len, e]
    exact e1
theorem t_retL (o : Ok0 M X N sc) (w : Ow M.K F0 H0 F H l ds) (hN : At N i x) (hv : σ[i]? = some (some (.ref l))) (dn : Done M.K F0 H0 D.rt E (.own ds)) (hs : nameB sc x = true) : W1 X (.Return (some (.Name x np)) pos) D σ H := by
  unfold nameB at hs
  simp only [Bool.and_eq_true, Bool.not_eq_true'] at hs
  obtain ⟨us, h1, h2⟩ := w.at'
  exact W1.of (ps_ret WE.pe) (we_slot o i hv (dn l us F H w.g w.fF w.fH h1 h2) hN.get hs.1.1 hs.1.2 hs.2)
theorem t_append (o : Ok M X N sc k) (S : Stt M.K F H σ env) (w : Ow M.K F0 H0 F H l ds) (hN : At N i x) (hv : σ[i]? = some (some (.ref l))) (hz : ds.length < 100000) (h : XD M X e σ F H d)
    (kk : ∀ us us' F' H', Grow F H F' H' → H' l = some (.lst us) → Stt M.K F' (upd H' l (.lst us')) σ env → Ow M.K F0 H0 F' (upd H' l (.lst us')) l (ds ++ [d]) → D.nx σ (upd H' l (.lst us'))) (hs : nameB sc x = true)
    (hst : starEach [e] X.env = (false, eval e X.env) :: starEach [] X.env := by rfl) (hline : (ap.endLine == pos.line) = true := by rfl)
    (hfew : ((backTo pos (starEach [e] X.env)).all (fun x => !x.1) && (backToKw pos (keywordEach [] X.env)).all (fun x => x.1.isSome) && decide ([e].length + ([] : List Keyword).length + (if ([] : List Keyword).isEmpty then 0 else 1) < 30)) = true := by rfl)
    (hpl : (backTo pos (starEach [] X.env)).any (·.1) = false := by rfl)
    (hbase : attributeBase (.Name x np) "append" X.env (eval (.Name x np) X.env) = eval (.Name x np) X.env := by rfl) (hsw : swapsWith (.Call (.Attribute (.Name x np) "append" ap) [e] [] pos) none p.line X.env = pure false := by rfl) :
    W1 X (.Expr (.Call (.Attribute (.Name x np) "append" ap) [e] [] pos) p) D σ H := by
  unfold nameB at hs
  simp only [Bool.and_eq_true, Bool.not_eq_true'] at hs
  obtain ⟨us, h1, h2⟩ := w.at'
  refine s_append o S hN hv w.fF h1 h2 hz h (fun F' H' us' g hF r => ?_) hs.1.1 hst hline hfew hpl hs.1.2 hs.2 hbase hsw
  exact kk us us' F' H' g (g.kp _ _ h1) ((S.grow g).own hF) ((w.grow g).set r)
theorem t_extend (o : Ok M X N sc k) (S : Stt M.K F H σ env) (w : Ow M.K F0 H0 F H l ds) (hN : At N i x) (hv : σ[i]? = some (some (.ref l))) (hz : ds.length + ds2.length < 100000) (h : XO M X e σ F H ds2)
    (kk : ∀ us us' F' H', Grow F H F' H' → H' l = some (.lst us) → Stt M.K F' (upd H' l (.lst us')) σ env → Ow M.K F0 H0 F' (upd H' l (.lst us')) l (ds ++ ds2) → D.nx σ (upd H' l (.lst us'))) (hs : nameB sc x = true)
    (hst : starEach [e] X.env = (false, eval e X.env) :: starEach [] X.env := by rfl) (hline : (ap.endLine == pos.line) = true := by rfl)
    (hfew : ((backTo pos (starEach [e] X.env)).all (fun x => !x.1) && (backToKw pos (keywordEach [] X.env)).all (fun x => x.1.isSome) && decide ([e].length + ([] : List Keyword).length + (if ([] : List Keyword).isEmpty then 0 else 1) < 30)) = true := by rfl)
    (hpl : (backTo pos (starEach [] X.env)).any (·.1) = false := by rfl)
    (hbase : attributeBase (.Name x np) "extend" X.env (eval (.Name x np) X.env) = eval (.Name x np) X.env := by rfl) (hsw : swapsWith (.Call (.Attribute (.Name x np) "extend" ap) [e] [] pos) none p.line X.env = pure false := by rfl) :
    W1 X (.Expr (.Call (.Attribute (.Name x np) "extend" ap) [e] [] pos) p) D σ H := by
  unfold nameB at hs
  simp only [Bool.and_eq_true, Bool.not_eq_true'] at hs
  obtain ⟨us, h1, h2⟩ := w.at'
  refine s_extend o S hN hv w.fF h1 h2 hz h (fun F' H' us' g hF r => ?_) hs.1.1 hst hline hfew hpl hs.1.2 hs.2 hbase hsw
  exact kk us us' F' H' g (g.kp _ _ h1) ((S.grow g).own hF) ((w.grow g).set r)
/-- xs.clear() -/
theorem t_clear (o : Ok M X N sc k) (S : Stt M.K F H σ env) (w : Ow M.K F0 H0 F H l ds) (hN : At N i x) (hv : σ[i]? = some (some (.ref l))) (kk : Stt M.K F (upd H l (.lst [])) σ env → Ow M.K F0 H0 F (upd H l (.lst [])) l [] → D.nx σ (upd H l (.lst []))) (hs : nameB sc x = true)
    (hline : (ap.endLine == pos.line) = true := by rfl)
    (hbase : attributeBase (.Name x np) "clear" X.env (eval (.Name x np) X.env) = eval (.Name x np) X.env := by rfl) (hsw : swapsWith (.Call (.Attribute (.Name x np) "clear" ap) [] [] pos) none p.line X.env = pure false := by rfl) :
    W1 X (.Expr (.Call (.Attribute (.Name x np) "clear" ap) [] [] pos) p) D σ H := by
  unfold nameB at hs
  simp only [Bool.and_eq_true, Bool.not_eq_true'] at hs
  obtain ⟨us, h1, h2⟩ := w.at'
  refine s_expr (WE.of (pe_bm0 PySem.F.plainAttrs_list PySem.F.slot_list_clear PySem.F.type_list_clear mt_clear WE.pe hbase hline) ?_) hsw
  refine we_slot o.toOk0 i hv ?_ hN.get hs.1.1 hs.1.2 hs.2
  exact ⟨.inl ⟨rfl, _, by rw [o.eK]; exact SqL.of h1⟩, l, us, rfl, rfl, h1, kk (S.own w.fF) (w.set .nil)⟩
/-! ### tuples put together and cut, any of them -/
theorem x_catT (o : Ok0 M X N sc) (ha : XD M X a σ F H (.tuple ds1)) (hb : XD M X b σ F H (.tuple ds2)) (h : ds1.length + ds2.length ≤ 100000) : XD M X (.BinOp a .Add b pos) σ F H (.tuple (ds1 ++ ds2)) := by
  refine ⟨fun F1 H1 g Q q => ?_⟩
  refine WE.of (pe_op op_catA WE.pe WE.pe) ?_
  refine ha.run F1 H1 g _ fun x F2 H2 g2 r2 => ?_
  refine hb.run F2 H2 (g.trans g2) _ fun y F3 H3 g3 r3 => ?_
  have r2' := r2.mono g3.ex
  cases r2' with
  | tup t1 s1 =>
    rename_i c1 xs1
    cases r3 with
    | tup t2 s2 =>
      rename_i c2 xs2
      refine ⟨_, _, _, _, rfl, rfl, by rw [o.eK]; exact sqt_mono g3.le t1, by rw [o.eK]; exact sqt_mono g3.le t2, by rw [s1.len, s2.len]; exact Nat.le_trans h (by decide), fun z => ?_, fun _ z => ?_, fun _ _ l hl => ?_⟩
      · have e1 : ds1 = [] := by
          have := s1.len
          rw [z] at this
          exact List.eq_nil_of_length_eq_zero this.symm
        rw [e1, List.nil_append] at q
        exact q _ F3 H3 (g2.trans g3) (.tup t2 s2)
      · have e2 : ds2 = [] := by
          have := s2.len
          rw [z] at this
          exact List.eq_nil_of_length_eq_zero this.symm
        rw [e2, List.append_nil] at q
        exact q _ F3 H3 (g2.trans g3) (.tup t1 s1)
      · have gA := Grow.add (o := .tup (xs1 ++ xs2)) g3.le hl
        exact q _ _ _ ((g2.trans g3).trans gA) (.tup (SqT.of upd_same) ((s1.app s2).mono gA.ex))
theorem cutD_whole (h1 : HT.sIx ds.length 0 vlo = 0) (h2 : HT.sIx ds.length ds.length vhi = ds.length) : cutD ds vlo vhi = ds := by
  unfold cutD
  rw [h1, h2]
  simp
theorem x_cutT (o : Ok0 M X N sc) (ha : XD M X a σ F H (.tuple ds)) (hl : XP M X σ F H lo vlo) (hh : XP M X σ F H hi vhi) : XD M X (.Subscript a (.Slice lo hi none p2) pos) σ F H (.tuple (cutD ds vlo vhi)) := by
  obtain ⟨tl, th, pl, ph, run⟩ := parts_run hl hh
  refine ⟨fun F1 H1 g Q q => ?_⟩
  refine WE.of (pe_slice sl_tupA WE.pe pl ph) ?_
  refine ha.run F1 H1 g _ fun y F2 H2 g2 r2 => ?_
  refine run F2 H2 (g.trans g2) _ fun F3 H3 g3 => ?_
  cases r2 with
  | tup h s =>
    rename_i c xs
    refine ⟨_, _, rfl, by rw [o.eK]; exact sqt_mono g3.base h, fun hw => ?_, fun hw l hl => ?_⟩
    · rw [s.len] at hw
      rw [cutD_whole hw.1 hw.2] at q
      exact q _ F3 H3 (g2.trans g3) (.tup (sqt_mono g3.ex h) (s.mono g3.ex))
    · have gA := Grow.add (o := .tup (cutV xs vlo vhi)) g3.le hl
      exact q _ _ _ ((g2.trans g3).trans gA) (.tup (SqT.of upd_same) (cut_dns (s.mono (g3.ex.trans gA.ex))))
/-! ### x in a list -/
theorem units65 {k : Nat} {A : Around} (r : Room k A) : A.units + 65 < cLine := by have := r.un; omega
theorem b_inL (o : Ok M X N sc k) (ha : XH M X a σ F H d) (hb : XH M X b σ F H (.list ds)) (p1 : Pl d) (p2 : Pl (.list ds)) (hm : behindInMarks .In b = false := by rfl) : XB M X (.Compare a [.In] [b] pos) σ F H (ds.any fun z => PyData.eqv z d) :=
  b_cmp (op_inD (units65 o.room)) hm ha hb fun x y F1 H1 g rx ry Q q => ⟨d, ds, by rw [o.eK]; exact rx.dp p1.can, by rw [o.eK]; exact ry.dp p2.can, p1, p2, q F1 H1 (Grow.refl g.le)⟩
theorem x_inL (o : Ok M X N sc k) (ha : XH M X a σ F H d) (hb : XH M X b σ F H (.list ds)) (p1 : Pl d) (p2 : Pl (.list ds)) (hm : behindInMarks .In b = false := by rfl) : XD M X (.Compare a [.In] [b] pos) σ F H (.bool (ds.any fun z => PyData.eqv z d)) :=
  x_cmp (op_inD (units65 o.room)) hm ha hb fun x y F1 H1 g rx ry Q q => ⟨d, ds, by rw [o.eK]; exact rx.dp p1.can, by rw [o.eK]; exact ry.dp p2.can, p1, p2, q F1 H1 (Grow.refl g.le)⟩
theorem b_ninL (o : Ok M X N sc k) (ha : XH M X a σ F H d) (hb : XH M X b σ F H (.list ds)) (p1 : Pl d) (p2 : Pl (.list ds)) (hm : behindInMarks .NotIn b = false := by rfl) : XB M X (.Compare a [.NotIn] [b] pos) σ F H (!ds.any fun z => PyData.eqv z d) :=
  b_cmp (op_notInD (units65 o.room)) hm ha hb fun x y F1 H1 g rx ry Q q => ⟨d, ds, by rw [o.eK]; exact rx.dp p1.can, by rw [o.eK]; exact ry.dp p2.can, p1, p2, q F1 H1 (Grow.refl g.le)⟩
/-! ### a, b, c = t -/
theorem t_unpack3 {x1 x2 x3 : Str} {i1 i2 i3 c : Nat} {d1 d2 d3 : PyData} {p1 p2 p3 pt : Pos} (o : Ok M X N sc k) (fs : Fs X) (S : Stt M.K F H σ env) (h1 : At N i1 x1) (h2 : At N i2 x2) (h3 : At N i3 x3) (h : XD M X e σ F H (.tuple [d1, d2, d3]))
    (kk : ∀ v1 v2 v3 F' H', Grow F H F' H' → Stt M.K F' H' (((σ.set i1 (some v1)).set i2 (some v2)).set i3 (some v3)) (((env.set i1 (some d1)).set i2 (some d2)).set i3 (some d3)) → D.nx (((σ.set i1 (some v1)).set i2 (some v2)).set i3 (some v3)) H')
    (l1 : locB sc x1 = true) (l2 : locB sc x2 = true) (l3 : locB sc x3 = true) (hs : swapsWithSole [.Tuple [.Name x1 p1, .Name x2 p2, .Name x3 p3] c pt] e pos.line X.env = pure false := by rfl) (hw : swappedStores [.Tuple [.Name x1 p1, .Name x2 p2, .Name x3 p3] c pt] e X.env = pure none := by rfl) :
    W1 X (.Assign [.Tuple [.Name x1 p1, .Name x2 p2, .Name x3 p3] c pt] e pos) D σ H := by
  have hx : ∀ {y : Str}, locB sc y = true → L2.Loc X.env.scope y := fun h => by
    rw [o.eS]
    exact loc_of h
  have nd : X.N.Nodup := by rw [o.eN]; exact o.nd
  have g1 : PG X (.Name x1 p1) (gName i1) := pg_name nd (by rw [o.eN]; exact h1.get) (hx l1) (.inl (fs.fn x1))
  have g2 : PG X (.Name x2 p2) (gName i2) := pg_name nd (by rw [o.eN]; exact h2.get) (hx l2) (.inl (fs.fn x2))
  have g3 : PG X (.Name x3 p3) (gName i3) := pg_name nd (by rw [o.eN]; exact h3.get) (hx l3) (.inl (fs.fn x3))
  refine W1.of (ps_asg WE.pe (pg_tup o.calm (pgs_cons g1 (pgs_cons g2 (pgs_cons g3 pgs_nil)))) hs hw) ?_
  refine h.run F H (Grow.refl S.le) _ fun v F' H' g r => ?_
  cases r with
  | tup ht s =>
    cases s with
    | cons r1 s =>
      cases s with
      | cons r2 s =>
        cases s with
        | cons r3 s =>
          cases s
          refine ⟨_, _, rfl, by rw [o.eK]; exact sqt_mono g.le ht, rfl, _, _, rfl, _, _, rfl, _, _, rfl, rfl, ?_⟩
          exact kk _ _ _ F' H' g ((((S.grow g).set r1).set r2).set r3)
/-- a bare call of a def that may refuse: on, or out -/
theorem s_must {X : Cx} {N : List Str} {sc : Scope} {k j : Nat} {σ : L2.St} {env : List (Option PyData)} {F H : Hp} {ds : List PyData} {e : Expr} {es : List Expr} {D : Ends} {pos p pos2 : Pos} {x : Str} {E : XK} {R : List PyData → Out → Prop} {r : Out}
    (o : Ok M X N sc k) (tk : Takes X (fun cls d _ H => E cls d H)) (S : Stt M.K F H σ env) (fc : Fc M (L2.CX M.P M.w) x j (spG M.K R)) (ha : XA M X (e :: es) σ F H ds) (hr : R ds r) (hj : j ≤ k) (hg : sc.names.lookup x = some .globalImplicit) (hdb : (x == ("__debug__" : Str)) = false)
    (kk : EndsIn M (fun cls d _ H => E cls d H) σ F H (fun _ H' => D.nx σ H') r) (he : starEach (e :: es) X.env = (false, eval e X.env) :: starEach es X.env := by rfl) (hpl : (backTo pos (starEach es X.env)).any (·.1) = false := by rfl)
    (hs : swapsWith (.Call (.Name x p) (e :: es) [] pos) none pos2.line X.env = pure false := by rfl) : W1 X (.Expr (.Call (.Name x p) (e :: es) [] pos) pos2) D σ H :=
  s_expr (x_callX o fc tk S.le ha hr kk hj hg hdb he hpl) hs
end
end Lay

/-! Lay8: sorted of data of any depth; a text so many times. -/
namespace Lay
open PySem PySem.Spec PyProof.Rows PySem.W L2

/-! ### sorted(xs), xs a list of alike data -/
def rSortedN (K : PySem.W.Frag) : List V → Hp → VK → Prop := fun vs H Q => ∃ (F : Hp) (a : Addr) (xs : List V) (bs : List PyData), vs = [V.ref a] ∧ SqL K H a xs ∧ Same F H ∧ Dns K F xs bs ∧ AllAlike bs ∧ Sortable bs ∧ (∀ b, b ∈ bs → b.canLay0 = true ∧ b.depth ≤ 60) ∧
  ∀ ys p, Dns K F ys (bs.mergeSort (dataLe false id)) → H p = none → Q (.ref p) (upd H p (.lst ys))
section
variable {X : Cx}
theorem dns_each {K : PySem.W.Frag} {F : Hp} : ∀ {xs : List V} {us : List Value} {bs : List PyData}, Vals xs us → Dns K F xs bs → EachIs (fun u d => ∃ v, RelV v u ∧ Dn K F v d) us bs
  | [], _, _, .nil, .nil => .nil
  | _ :: _, _, _, .cons r t, .cons d e => .cons ⟨_, r, d⟩ (dns_each t e)
theorem each_dns {K : PySem.W.Frag} {F : Hp} : ∀ {us : List Value} {bs : List PyData}, EachIs (fun u d => ∃ v, RelV v u ∧ Dn K F v d) us bs → ∃ xs, Vals xs us ∧ Dns K F xs bs
  | _, _, .nil => ⟨[], .nil, .nil⟩
  | _, _, .cons ⟨v, r, d⟩ t => by
    obtain ⟨xs, h1, h2⟩ := each_dns t
    exact ⟨v :: xs, .cons r h1, .cons d h2⟩
theorem each_imp {α β : Type} {R T : α → β → Prop} : ∀ {us : List α} {bs : List β}, EachIs R us bs → (∀ u b, b ∈ bs → R u b → T u b) → EachIs T us bs
  | _, _, .nil, _ => .nil
  | _, _, .cons r t, h => .cons (h _ _ List.mem_cons_self r) (each_imp t fun u b hb => h u b (List.mem_cons_of_mem _ hb))
theorem cr_sortedN (hu : X.A.units + 64 < cLine) : CallR X (.builtin "sorted") (rSortedN X.K) := by
  intro pins s σ H vs us Q I r h
  obtain ⟨F, a, xs, bs, rfl, hs, le, hd, hal, hk, hb, q⟩ := h
  obtain ⟨its, rv, hl, hz⟩ := I.list hs
  rw [Vals.ref1 r]
  have hlen := hd.len
  have e1 := dns_each rv hd
  refine sorted_data (enc := id) (bs := bs) hl.isList e1 ?_ (by rw [List.map_id]; exact hal) (by rw [List.map_id]; exact hk) (by rw [← hlen]; exact hz) (fun b m => ?_) fun out h1 h2 => ?_
  · refine each_imp e1 fun u b m h => ?_
    obtain ⟨v, rr, dd⟩ := h
    exact Dp.reads I b v u ((dd.mono le).dp (hb b m).1) rr
  · have := (hb b m).2
    show X.A.units + 2 + b.depth < cLine
    omega
  · obtain ⟨ys, h3, h4⟩ := each_dns h2
    obtain ⟨ep, he'⟩ := PyProof.Rows.sortedAll_at s.heap its out.toArray
    have hl2 : ys.length ≤ sizeLine := by
      rw [h3.length, h1, ← hlen]
      exact hz
    exact ⟨.ref _, upd H (s.heap.objs.size + 1) (.lst ys), I.laid (t' := s.toks) (fun _ _ => PyProof.Rows.sortedAll_old) (Nat.le_succ _) ⟨hl2, out, ep, h3, he'⟩, rfl, q ys _ h4 (I.hok.fresh (Nat.le_succ _))⟩
end
section
variable {M : Md} {X : Cx} {N : List Str} {sc : Scope} {k j : Nat} {σ : L2.St} {F H : Hp} {bs : List PyData} {e a b : Expr} {pos p : Pos}
theorem o_sortedD (o : Ok M X N sc k) (hm : M.mg "sorted" = none) (ha : XD M X e σ F H (.list bs)) (hal : AllAlike bs) (hk : Sortable bs) (hb : ∀ b, b ∈ bs → b.canLay0 = true ∧ b.depth ≤ 60) (hg : sc.names.lookup ("sorted" : Str) = some .globalImplicit)
    (he : starEach (e :: []) X.env = (false, eval e X.env) :: starEach [] X.env := by rfl) (hpl : (backTo pos (starEach [] X.env)).any (·.1) = false := by rfl) : XO M X (.Call (.Name "sorted" p) [e] [] pos) σ F H (bs.mergeSort (dataLe false id)) :=
  o_callB o.toOk0 (cr_sortedN o.room.units) hm PyProof.Rows.boot_sorted (a_cons ha a_nil he) (fun vs F1 H1 g r Q q => by
    rw [o.eK]
    cases r with
    | cons h t =>
      cases t
      cases h with
      | lst hl s =>
        refine ⟨F1, _, _, bs, rfl, SqL.of (g.le _ _ hl), g.le, s, hal, hk, hb, fun ys l r hl' => ?_⟩
        exact q l ys F1 _ (Grow.own g.le hl') (g.le.free hl') hl' upd_same r) hg (by decide +kernel) (by decide +kernel) he hpl
/-! ### rows of whole numbers -/
abbrev tI (ns : List Int) : PyData := .tuple (ns.map PyData.int)
theorem alike_tI (n : Nat) {xs ys : List Int} : alike (tI xs) (tI ys) = true := by
  show alikeAll (xs.map .int) (ys.map .int) = true
  exact alike_ints xs ys
theorem allAlike_tI (rows : List (List Int)) : AllAlike (rows.map tI) := AllAlike.of fun _ _ => alike_tI 0
theorem sortable_tI {rows : List (List Int)} (h : ∀ r, r ∈ rows → r ≠ []) : Sortable (rows.map tI) := .inl fun d hd => by
  obtain ⟨r, hr, rfl⟩ := List.mem_map.mp hd
  cases r with
  | nil => exact absurd rfl (h _ hr)
  | cons x r => exact ⟨_, _, rfl⟩
theorem can_ints (ns : List Int) : PyData.canLayAll0 (ns.map PyData.int) = true ∧ PyData.depthAll (ns.map PyData.int) = 0 := flat_can fun d hd => by
  obtain ⟨n, _, rfl⟩ := List.mem_map.mp hd
  rfl
theorem can_tI (ns : List Int) : (tI ns).canLay0 = true ∧ (tI ns).depth ≤ 60 := by
  obtain ⟨h1, h2⟩ := can_ints ns
  refine ⟨h1, ?_⟩
  show PyData.depthAll (ns.map PyData.int) + 1 ≤ 60
  rw [h2]
  decide
theorem le_tI (xs ys : List Int) : dataLe false id (tI xs) (tI ys) = decide (xs ≤ ys) := by
  have h := congrFun (congrFun (dataLe_rows (id : List Int → List Int)) xs) ys
  rw [dataLe_eq] at h ⊢
  exact h
/-- the rows in order -/
def srtR (rows : List (List Int)) : List (List Int) := rows.mergeSort fun a b => decide (a ≤ b)
theorem sort_tI (rows : List (List Int)) : (rows.map tI).mergeSort (dataLe false id) = (srtR rows).map tI :=
  (List.map_mergeSort fun a _ b _ => (le_tI a b).symm).symm
theorem srtR_perm (rows : List (List Int)) : (srtR rows).Perm rows := List.mergeSort_perm _ _
theorem srtR_up (rows : List (List Int)) : (srtR rows).Pairwise (· ≤ ·) := by
  have h := List.pairwise_mergeSort (le := fun x y : List Int => decide (x ≤ y)) (fun a b c h1 h2 => by
    simp only [decide_eq_true_eq] at *
    exact List.le_trans h1 h2) (fun a b => by
    simp only [Bool.or_eq_true, decide_eq_true_eq]
    exact List.le_total a b) rows
  exact h.imp fun h => of_decide_eq_true h
theorem srt_rows_the {rows a b : List (List Int)} (pa : a.Perm rows) (sa : a.Pairwise (· ≤ ·)) (pb : b.Perm rows) (sb : b.Pairwise (· ≤ ·)) : a = b := List.Perm.eq_of_pairwise (le := (· ≤ ·)) (fun x y _ _ h1 h2 => List.le_antisymm h1 h2) sa sb (pa.trans pb.symm)
theorem srtR_eq {rows due : List (List Int)} (h : due.Perm rows) (s : due.Pairwise (· ≤ ·)) : srtR rows = due := srt_rows_the (srtR_perm rows) (srtR_up rows) h s
theorem srtR_congr {a b : List (List Int)} (h : a.Perm b) : srtR a = srtR b := srtR_eq ((srtR_perm b).trans h.symm) (srtR_up b)
/-- sorted of a list of rows of whole numbers -/
theorem o_sortedT {rows : List (List Int)} (o : Ok M X N sc k) (hm : M.mg "sorted" = none) (ha : XD M X e σ F H (.list (rows.map tI))) (hr : ∀ r, r ∈ rows → r ≠ []) (hg : sc.names.lookup ("sorted" : Str) = some .globalImplicit)
    (he : starEach (e :: []) X.env = (false, eval e X.env) :: starEach [] X.env := by rfl) (hpl : (backTo pos (starEach [] X.env)).any (·.1) = false := by rfl) : XO M X (.Call (.Name "sorted" p) [e] [] pos) σ F H ((srtR rows).map tI) :=
  XO.to (o_sortedD o hm ha (allAlike_tI rows) (sortable_tI hr) (fun b hb => by
    obtain ⟨r, _, rfl⟩ := List.mem_map.mp hb
    exact can_tI r) hg he hpl) (sort_tI rows)
/-! ### a text so many times -/
def rMulS : R2 := fun x y H Q => ∃ (z : Str) (n : Nat), x = .str z ∧ y = .int (n : Int) ∧ 1 ≤ n ∧ n ≤ 1000 ∧ z.length ≤ 1000 ∧ Q (.str ⟨((List.replicate n z.cps.toList).flatten).toArray⟩) H
theorem foldl_repS (a : Array Nat) : ∀ (m : Nat) (acc : List Nat), (List.replicate m a).foldl (· ++ ·) acc.toArray = (acc ++ (List.replicate m a.toList).flatten).toArray
  | 0, acc => by simp
  | m + 1, acc => by
    show (List.replicate m a).foldl (· ++ ·) (acc.toArray ++ a) = _
    have e : acc.toArray ++ a = (acc ++ a.toList).toArray := by
      apply Array.toList_inj.mp
      simp
    rw [e, foldl_repS a m (acc ++ a.toList), List.replicate_succ, List.flatten_cons, List.append_assoc]
theorem op_mulS {X : Cx} : OpR X (binaryOp .Mult) rMulS := by
  intro pins s σ H x y v u Q I rx ry h
  obtain ⟨z, n, rfl, rfl, h1, h2, hz, q⟩ := h
  obtain ⟨t, rfl⟩ := rx
  obtain ⟨t', rfl⟩ := ry
  have hzz : z.cps.size ≤ 1000 := hz
  have hmul : z.length * n ≤ 1000 * 1000 := Nat.mul_le_mul hz h2
  refine PySem.P.mul_str ?_ (fun _ _ => ?_) (fun _ _ => ?_) ?_
  · have a1 : ¬ ((n : Int) < -(2 ^ 63 : Int)) := by omega
    have a2 : ¬ ((n : Int) ≥ 2 ^ 63) := by omega
    rw [decide_eq_false a1, decide_eq_false a2]
    rfl
  · have h3 : (9223372036854775807 : Int) / 1000 ≤ (2 ^ 63 - 1) / (n : Int) := by
      refine Int.le_ediv_of_mul_le (by omega) ?_
      have : (9223372036854775807 : Int) / 1000 = 9223372036854775 := by decide
      rw [this]
      omega
    have h4 : (9223372036854775807 : Int) / 1000 = 9223372036854775 := by decide
    rw [h4] at h3
    have : ((z.length : Nat) : Int) ≤ 1000 := by omega
    omega
  · show decide (z.length * ((n : Int)).toNat > sizeLine) = false
    rw [Int.toNat_natCast]
    exact decide_eq_false (Nat.not_lt.mpr (Nat.le_trans hmul (by decide)))
  · rw [if_neg (show ¬ ((n : Int) < 1) by omega)]
    have e0 : (List.replicate ((n : Int)).toNat z.cps).foldl (· ++ ·) #[] = ((List.replicate n z.cps.toList).flatten).toArray := by
      rw [Int.toNat_natCast]
      have := foldl_repS z.cps n []
      rw [List.nil_append] at this
      exact this
    by_cases hc : ((n : Int) == 1 || z.length == 0) = true
    · rw [if_pos hc]
      have e1 : (⟨((List.replicate n z.cps.toList).flatten).toArray⟩ : Str) = z := by
        simp only [Bool.or_eq_true, beq_iff_eq] at hc
        rcases hc with hc | hc
        · have : n = 1 := by omega
          subst this
          simp
        · have : z.cps = #[] := Array.eq_empty_of_size_eq_zero hc
          have e2 : z.cps.toList = [] := by rw [this]
          rw [e2]
          have e3 : (List.replicate n ([] : List Nat)).flatten = [] := by simp
          rw [e3]
          cases z with
          | mk c =>
            simp only at this
            rw [this]
      refine ⟨.str z, H, I, ⟨t, rfl⟩, ?_⟩
      rw [e1] at q
      exact q
    · rw [if_neg hc, e0]
      have hl : (⟨((List.replicate n z.cps.toList).flatten).toArray⟩ : Str).length ≤ sizeLine := by
        show ((List.replicate n z.cps.toList).flatten).toArray.size ≤ sizeLine
        rw [List.size_toArray, List.length_flatten, List.map_replicate, List.sum_replicate_nat, Array.length_toList]
        have : n * z.cps.size ≤ 1000 * 1000 := Nat.mul_le_mul h2 hzz
        exact Nat.le_trans this (by decide)
      exact ⟨hl, .str _, H, I.tok _, ⟨_, rfl⟩, q⟩
theorem x_mulS {z : Str} {n : Nat} (ha : XD M X a σ F H (.str z)) (hb : XD M X b σ F H (.int (n : Int))) (h1 : 1 ≤ n) (h2 : n ≤ 1000) (hz : z.length ≤ 1000) : XD M X (.BinOp a .Mult b pos) σ F H (.str ⟨((List.replicate n z.cps.toList).flatten).toArray⟩) :=
  x_bin op_mulS ha hb fun x y F1 H1 g rx ry Q q => by
    cases rx
    cases ry
    exact ⟨z, n, rfl, rfl, h1, h2, hz, q _ F1 H1 (Grow.refl g.le) (.str _)⟩
end
end Lay

/-! Die: how a die lies and rolls, in plain Lean. Letters of rolls are their codes: 101 e, 110 n, 115 s, 119 w (any other one is taken as w). -/
namespace Die
abbrev L3 := Int × Int × Int
def pr (z : Int) : Int := ([0, 1, 2, 3, 3, 2, 1] : List Int).getD z.toNat 0
/-- how many in front of place p are greater -/
def gr (row : List Int) (p : Nat) : Nat := ((row.take p).filter fun n => decide (row.getD p 0 < n)).length
def disC (row : List Int) : Nat → Nat
  | 0 => 0
  | p + 1 => disC row p + gr row p
def dis (row : List Int) : Int := (disC row row.length : Int) % 2
def inR (z : Int) : Bool := decide (1 ≤ z) && decide (z ≤ 6)
def prs (l : L3) : List Int := [pr l.1, pr l.2.1, pr l.2.2]
def lst (l : L3) : List Int := [l.1, l.2.1, l.2.2]
def great (l : L3) : Nat := ((lst l).filter fun n => decide (3 < n)).length
def isLie (l : L3) : Bool := inR l.1 && inR l.2.1 && inR l.2.2 && decide ((prs l).Perm [1, 2, 3]) && decide ((great l : Int) % 2 = dis (prs l))
def roll (l : L3) (c : Nat) : L3 :=
  if c = 110 then (7 - l.2.1, l.1, l.2.2) else if c = 115 then (l.2.1, 7 - l.1, l.2.2) else if c = 101 then (7 - l.2.2, l.2.1, l.1) else (l.2.2, l.2.1, 7 - l.1)
def rolled (l : L3) (cs : List Nat) : L3 := cs.foldl roll l
def first : L3 := (1, 2, 3)
theorem rolled_app (l : L3) (a b : List Nat) : rolled l (a ++ b) = rolled (rolled l a) b := List.foldl_append
/-- the numbers 1 to 6 -/
def six : List Int := [1, 2, 3, 4, 5, 6]
theorem mem_six {z : Int} (h : inR z = true) : z ∈ six := by
  unfold inR at h
  simp only [Bool.and_eq_true, decide_eq_true_eq] at h
  unfold six
  simp only [List.mem_cons, List.not_mem_nil, or_false]
  omega
theorem inR_of {z : Int} (h : inR z = true) : 1 ≤ z ∧ z ≤ 6 := by
  unfold inR at h
  simpa using h
def all216 : List L3 := six.flatMap fun a => six.flatMap fun b => six.map fun c => (a, b, c)
def lies : List L3 := all216.filter isLie
theorem lie_in {l : L3} (h : isLie l = true) : inR l.1 = true ∧ inR l.2.1 = true ∧ inR l.2.2 = true := by
  unfold isLie at h
  simp only [Bool.and_eq_true] at h
  exact ⟨h.1.1.1.1, h.1.1.1.2, h.1.1.2⟩
theorem mem_lies {l : L3} : l ∈ lies ↔ isLie l = true := by
  unfold lies
  rw [List.mem_filter]
  refine ⟨fun h => h.2, fun h => ⟨?_, h⟩⟩
  obtain ⟨h1, h2, h3⟩ := lie_in h
  unfold all216
  refine List.mem_flatMap.mpr ⟨l.1, mem_six h1, List.mem_flatMap.mpr ⟨l.2.1, mem_six h2, List.mem_map.mpr ⟨l.2.2, mem_six h3, rfl⟩⟩⟩
/-- what holds of the twenty-four holds of every right lie -/
theorem of_all (P : L3 → Bool) (h : lies.all P = true) {l : L3} (hl : isLie l = true) : P l = true := List.all_eq_true.mp h l (mem_lies.mpr hl)
def lies24 : List L3 := [(1, 2, 3), (1, 3, 5), (1, 4, 2), (1, 5, 4), (2, 1, 4), (2, 3, 1), (2, 4, 6), (2, 6, 3), (3, 1, 2), (3, 2, 6), (3, 5, 1), (3, 6, 5), (4, 1, 5), (4, 2, 1), (4, 5, 6), (4, 6, 2), (5, 1, 3), (5, 3, 6), (5, 4, 1), (5, 6, 4), (6, 2, 4), (6, 3, 2), (6, 4, 5), (6, 5, 3)]
theorem lies_eq : lies = lies24 := by decide +kernel
theorem roll_right {l : L3} (h : isLie l = true) (c : Nat) : isLie (roll l c) = true := by
  have e : ∀ c ∈ ([110, 115, 101, 119] : List Nat), isLie (roll l c) = true := fun c hc =>
    List.all_eq_true.mp (of_all (fun l => ([110, 115, 101, 119] : List Nat).all fun c => isLie (roll l c)) (by decide +kernel) h) c hc
  by_cases h1 : c = 110
  · exact e c (by simp [h1])
  by_cases h2 : c = 115
  · exact e c (by simp [h2])
  by_cases h3 : c = 101
  · exact e c (by simp [h3])
  have e4 := e 119 (by simp)
  unfold roll at e4 ⊢
  rw [if_neg h1, if_neg h2, if_neg h3]
  exact e4
theorem rolled_right : ∀ (cs : List Nat) {l : L3}, isLie l = true → isLie (rolled l cs) = true
  | [], _, h => h
  | c :: cs, _, h => rolled_right cs (roll_right h c)
theorem first_right : isLie first = true := by decide +kernel
/-- two places changed about: wrong -/
theorem swap12 {l : L3} (h : isLie l = true) : isLie (l.2.1, l.1, l.2.2) = false := by
  have := of_all (fun l => !isLie (l.2.1, l.1, l.2.2)) (by decide +kernel) h
  simpa using this
theorem swap23 {l : L3} (h : isLie l = true) : isLie (l.1, l.2.2, l.2.1) = false := by
  have := of_all (fun l => !isLie (l.1, l.2.2, l.2.1)) (by decide +kernel) h
  simpa using this
theorem swap13 {l : L3} (h : isLie l = true) : isLie (l.2.2, l.2.1, l.1) = false := by
  have := of_all (fun l => !isLie (l.2.2, l.2.1, l.1)) (by decide +kernel) h
  simpa using this
/-! ### turns, one behind the other -/
/-- where the number n is seen in the first lie -/
def sd (n : Int) : Int := if n = 1 then 0 else if n = 2 then 1 else if n = 3 then 2 else if n = 6 then 3 else if n = 5 then 4 else 5
def sn (l : L3) (p : Int) : Int := if p = 0 then l.1 else if p = 1 then l.2.1 else if p = 2 then l.2.2 else if p = 3 then 7 - l.1 else if p = 4 then 7 - l.2.1 else 7 - l.2.2
def se (l : L3) (n : Int) : Int := sn l (sd n)
def beh (l o : L3) : L3 := (se l o.1, se l o.2.1, se l o.2.2)
theorem se_flip (l : L3) {n : Int} (h : inR n = true) : se l (7 - n) = 7 - se l n := by
  obtain ⟨h1, h2⟩ := inR_of h
  have : n = 1 ∨ n = 2 ∨ n = 3 ∨ n = 4 ∨ n = 5 ∨ n = 6 := by omega
  rcases this with rfl | rfl | rfl | rfl | rfl | rfl <;> simp [se, sd, sn] <;> omega
theorem beh_roll (l : L3) {o : L3} (h : isLie o = true) (c : Nat) : beh l (roll o c) = roll (beh l o) c := by
  obtain ⟨h1, h2, h3⟩ := lie_in h
  unfold roll
  split
  · simp only [beh, se_flip l h2]
  split
  · simp only [beh, se_flip l h1]
  split
  · simp only [beh, se_flip l h3]
  · simp only [beh, se_flip l h1]
theorem beh_rolled (l : L3) : ∀ (cs : List Nat) {o : L3}, isLie o = true → beh l (rolled o cs) = rolled (beh l o) cs
  | [], _, _ => rfl
  | c :: cs, o, h => by
    show beh l (rolled (roll o c) cs) = rolled (roll (beh l o) c) cs
    rw [beh_rolled l cs (roll_right h c), beh_roll l h]
theorem beh_first (l : L3) : beh l first = l := rfl
theorem first_beh {l : L3} (h : isLie l = true) : beh first l = l := by
  have := of_all (fun l => decide (beh first l = l)) (by decide +kernel) h
  simpa using this
/-- the heart of it: a row behind a row -/
theorem beh_turns (a b : List Nat) : beh (rolled first a) (rolled first b) = rolled first (a ++ b) := by
  rw [beh_rolled _ b first_right, beh_first, rolled_app]
end Die

/-! Die2: how often a row leads back. -/
namespace Die
/-- a row leads to where the turn of it leads -/
theorem rolled_beh (l : L3) (cs : List Nat) : rolled l cs = beh l (rolled first cs) := (beh_rolled l cs first_right).symm
def itB (R : L3) : Nat → L3 → L3
  | 0, l => l
  | n + 1, l => beh (itB R n l) R
def tm (R : L3) : Nat := if R = first then 1 else if beh R R = first then 2 else if beh (beh R R) R = first then 3 else 4
theorem itB_succ (cs : List Nat) (n : Nat) (l : L3) : itB (rolled first cs) (n + 1) l = rolled (itB (rolled first cs) n l) cs := (rolled_beh _ cs).symm
theorem tm_pos (R : L3) : 1 ≤ tm R ∧ tm R ≤ 4 := by
  unfold tm
  split
  · omega
  split
  · omega
  split <;> omega
theorem tm_back {R : L3} (h : isLie R = true) {l : L3} (hl : isLie l = true) : itB R (tm R) l = l := by
  have h1 := of_all (fun R => lies.all fun l => decide (itB R (tm R) l = l)) (by decide +kernel) h
  have h2 := of_all (fun l => decide (itB R (tm R) l = l)) h1 hl
  simpa using h2
theorem tm_least {R : L3} (h : isLie R = true) {k : Nat} (h1 : 1 ≤ k) (h2 : k < tm R) : itB R k first ≠ first := by
  have hk := (tm_pos R).2
  have e := of_all (fun R => (List.range 4).all fun k => decide (1 ≤ k) && decide (k < tm R) → itB R k first ≠ first) (by decide +kernel) h
  have e2 := List.all_eq_true.mp e k (List.mem_range.mpr (by omega))
  simp only [decide_eq_true_eq, Bool.and_eq_true] at e2
  exact e2 ⟨h1, h2⟩
theorem tm_iff {R : L3} (h : isLie R = true) {k : Nat} (h1 : 1 ≤ k) (h2 : k ≤ tm R) : itB R k first = first ↔ k = tm R := by
  refine ⟨fun e => ?_, fun e => ?_⟩
  · by_cases hk : k < tm R
    · exact absurd e (tm_least h h1 hk)
    · omega
  · subst e
    exact tm_back h first_right
/-- rows of rolls whose letters are all such -/
def okR (cs : List Nat) : Bool := cs.all fun c => decide (c ∈ ([101, 110, 115, 119] : List Nat))
theorem okR_app (a b : List Nat) : okR (a ++ b) = (okR a && okR b) := List.all_append
/-- how the numbers of two rows of rolls, one so often, lie -/
theorem rolled_times (cs : List Nat) (l : L3) : ∀ n : Nat, rolled l ((List.replicate n cs).flatten) = itB (rolled first cs) n l
  | 0 => rfl
  | n + 1 => by
    rw [List.replicate_succ', List.flatten_append, rolled_app, rolled_times cs l n, itB_succ]
    simp
/-- all lies are led to, each once -/
theorem beh_inj {R l m : L3} (h : isLie R = true) (hl : isLie l = true) (hm : isLie m = true) (e : beh l R = beh m R) : l = m := by
  have h1 := of_all (fun R => lies.all fun l => lies.all fun m => decide (beh l R = beh m R → l = m)) (by decide +kernel) h
  have h2 := of_all (fun l => lies.all fun m => decide (beh l R = beh m R → l = m)) h1 hl
  have h3 := of_all (fun m => decide (beh l R = beh m R → l = m)) h2 hm
  exact of_decide_eq_true h3 e
theorem dis_roll {l : L3} (h : isLie l = true) (c : Nat) : dis (prs (roll l c)) = (dis (prs l) + 1) % 2 := by
  have e : ∀ c ∈ ([110, 115, 101, 119] : List Nat), dis (prs (roll l c)) = (dis (prs l) + 1) % 2 := fun c hc => by
    have := List.all_eq_true.mp (of_all (fun l => ([110, 115, 101, 119] : List Nat).all fun c => decide (dis (prs (roll l c)) = (dis (prs l) + 1) % 2)) (by decide +kernel) h) c hc
    simpa using this
  by_cases h1 : c = 110
  · exact e c (by simp [h1])
  by_cases h2 : c = 115
  · exact e c (by simp [h2])
  by_cases h3 : c = 101
  · exact e c (by simp [h3])
  have e4 := e 119 (by simp)
  unfold roll at e4 ⊢
  rw [if_neg h1, if_neg h2, if_neg h3]
  exact e4
theorem dis_two (row : List Int) : dis row = 0 ∨ dis row = 1 := by
  unfold dis
  omega
theorem dis_rolled : ∀ (cs : List Nat) {l : L3}, isLie l = true → dis (prs (rolled l cs)) = (dis (prs l) + (cs.length : Nat)) % 2
  | [], l, _ => by
    show dis (prs l) = (dis (prs l) + 0) % 2
    have := dis_two (prs l)
    omega
  | c :: cs, l, h => by
    show dis (prs (rolled (roll l c) cs)) = _
    rw [dis_rolled cs (roll_right h c), dis_roll h c, List.length_cons]
    have := dis_two (prs l)
    omega
theorem led_perm (cs : List Nat) : (lies24.map fun l => lst (rolled l cs)).Perm (lies24.map lst) := by
  have hR : isLie (rolled first cs) = true := rolled_right cs first_right
  have e : (lies24.map fun l => lst (rolled l cs)) = lies24.map fun l => lst (beh l (rolled first cs)) := List.map_congr_left fun l _ => by rw [rolled_beh]
  rw [e]
  have := of_all (fun R => decide ((lies24.map fun l => lst (beh l R)).Perm (lies24.map lst))) (by decide +kernel) hR
  exact of_decide_eq_true this
theorem lies_up : (lies24.map lst).Pairwise (· ≤ ·) := by decide +kernel
/-- both rows lead alike just where they do from the first lie -/
theorem alike_led (a b : List Nat) : (lies24.all fun l => decide (rolled l b = rolled l a)) = decide (rolled first a = rolled first b) := by
  by_cases h : rolled first a = rolled first b
  · rw [decide_eq_true h, List.all_eq_true]
    intro l _
    rw [rolled_beh l b, rolled_beh l a, h]
    exact decide_eq_true rfl
  · rw [decide_eq_false h]
    cases e : lies24.all fun l => decide (rolled l b = rolled l a) with
    | false => rfl
    | true =>
      have := List.all_eq_true.mp e first (by decide +kernel)
      exact absurd (of_decide_eq_true this).symm h
end Die

/-! Txts: texts by their codes; the draws. -/
namespace Roll
open PySem L2 Lay
/-- the text of codes -/
@[irreducible] def tx (cs : List Nat) : Str := ⟨cs.toArray⟩
theorem tx_codes (z : Str) : tx z.cps.toList = z := by
  unfold tx
  simp
theorem tx_list (cs : List Nat) : (tx cs).cps.toList = cs := by
  unfold tx
  simp
theorem tx_len (cs : List Nat) : (tx cs).length = cs.length := by
  unfold tx Str.length
  simp
theorem tx_app (a b : List Nat) : tx a ++ tx b = tx (a ++ b) := by
  unfold tx
  show (⟨a.toArray ++ b.toArray⟩ : Str) = ⟨(a ++ b).toArray⟩
  rw [List.append_toArray]
theorem tx_inj {a b : List Nat} (h : tx a = tx b) : a = b := by
  have := congrArg (fun z : Str => z.cps.toList) h
  simpa [tx] using this
theorem joinL_flat : ∀ ps : List (List Nat), TL.joinL [] ps = ps.flatten
  | [] => rfl
  | [p] => by simp [TL.joinL]
  | p :: q :: r => by
    show p ++ ([] ++ TL.joinL [] (q :: r)) = _
    rw [joinL_flat (q :: r)]
    simp
theorem join_signs (cs : List Nat) : Txt.join "" (cs.map fun c => (⟨#[c]⟩ : Str)) = tx cs := by
  rw [TL.join_eq, ← tx_codes (Str.join "" _)]
  apply congrArg tx
  show TL.tl (Str.join "" _) = cs
  rw [TL.tl_join]
  have e : TL.tl ("" : Str) = [] := by decide +kernel
  rw [e, joinL_flat, List.map_map]
  induction cs with
  | nil => rfl
  | cons c r ih =>
    simp only [List.map_cons, List.flatten_cons]
    rw [ih]
    rfl
abbrev scr (ns : List Int) : PyData := .dict [(.none, .list (ns.map PyData.int))]
/-- a cell of the script -/
def cellAt (ns : List Int) (k : Nat) : Int := ns.getD k 0
def mix (cell k : Int) : Int :=
  let m1 := (cell * 69621 + 7001 * k + 3) % 2147483629
  let m2 := (m1 * m1 + 39373 * m1 + k) % 2147483647
  (m2 * m2 + 16807 * m2 + 7 * k) % 2147483587
def letter (i : Int) : Nat := ([101, 110, 115, 119] : List Nat).getD i.toNat 0
/-- n drawn rolls -/
def rollsC (cell : Int) (n : Nat) : List Nat := (List.range n).map fun k : Nat => letter (mix cell (k : Int) / 7 % 4)
theorem ensw_list : ("ensw" : Str).cps.toList = [101, 110, 115, 119] := by decide +kernel
theorem ensw_at {i : Int} (h : 0 ≤ i ∧ i < 4) : atI ("ensw" : Str).cps.toList i = some (letter i) := by
  rw [ensw_list]
  have : i = 0 ∨ i = 1 ∨ i = 2 ∨ i = 3 := by omega
  rcases this with rfl | rfl | rfl | rfl <;> rfl
theorem mod4 (x : Int) : 0 ≤ x % 4 ∧ x % 4 < 4 := ⟨Int.emod_nonneg _ (by decide), Int.emod_lt_of_pos _ (by decide)⟩
theorem sign_n : ("n" : Str) = ⟨#[110]⟩ := by decide +kernel
theorem sign_s : ("s" : Str) = ⟨#[115]⟩ := by decide +kernel
theorem sign_e : ("e" : Str) = ⟨#[101]⟩ := by decide +kernel
theorem sign_w : ("w" : Str) = ⟨#[119]⟩ := by decide +kernel
theorem sign_eq (c d : Nat) : decide ((⟨#[c]⟩ : Str) = ⟨#[d]⟩) = decide (c = d) := by
  by_cases h : c = d
  · subst h
    simp
  · rw [decide_eq_false h, decide_eq_false]
    intro e
    have := congrArg (fun z : Str => z.cps.toList) e
    simp at this
    exact h this
theorem foldl_take {α β : Type} {f : α → β → α} {a : α} {l : List β} {i : Nat} {b : β} (h : l[i]? = some b) : (l.take (i + 1)).foldl f a = f ((l.take i).foldl f a) b := by
  rw [take_snoc h, List.foldl_append]
  rfl
end Roll
namespace Roll
open PySem L2 Lay
theorem tx_one (c : Nat) : tx [c] = ⟨#[c]⟩ := by
  unfold tx
  rfl
theorem tx_nil : tx [] = "" := by
  unfold tx
  decide +kernel
theorem cutS_to (cs : List Nat) (n : Nat) (h : n ≤ cs.length) : cutS (tx cs) none (some (n : Int)) = tx (cs.take n) := by
  unfold cutS
  rw [HT.sIx_none, HT.sIx_nat, tx_list, tx_len, Nat.min_eq_left h]
  unfold tx
  simp
theorem cutS_from (cs : List Nat) (n : Nat) (h : n ≤ cs.length) : cutS (tx cs) (some (n : Int)) none = tx (cs.drop n) := by
  unfold cutS
  rw [HT.sIx_none, HT.sIx_nat, tx_list, tx_len, Nat.min_eq_left h]
  unfold tx
  rw [List.take_of_length_le (by rw [List.length_drop]; exact Nat.le_refl _)]
theorem tx_size (cs : List Nat) : (tx cs).cps.size = cs.length := by
  have := tx_len cs
  unfold Str.length at this
  exact this
theorem tx_at {cs : List Nat} {i c : Nat} (h : (tx cs).cps[i]? = some c) : cs[i]? = some c := by
  have : (tx cs).cps.toList[i]? = some c := by simpa using h
  rwa [tx_list] at this
end Roll

/-! Flo: floors in plain Lean: rows of codes of signs, 46 a cell, 35 none. -/
namespace Flo
abbrev Rows := List (List Nat)
def isSign (c : Nat) : Bool := decide (c ∈ ([46, 35] : List Nat))
def wid (f : Rows) : Nat := (f.headD []).length
def okRow (n : Nat) (r : List Nat) : Bool := decide (1 ≤ r.length) && decide (r.length ≤ 8) && decide (r.length = n) && r.all isSign
def okF (f : Rows) : Bool := decide (1 ≤ f.length) && decide (f.length ≤ 8) && f.all (okRow (wid f))
def cellsN (f : Rows) : Int := (f.map fun r => ((r.count 46 : Nat) : Int)).sum
theorem okRow_len {n : Nat} {r : List Nat} (h : okRow n r = true) : r.length = n ∧ 1 ≤ r.length ∧ r.length ≤ 8 ∧ r.all isSign = true := by
  unfold okRow at h
  simp only [Bool.and_eq_true, decide_eq_true_eq] at h
  exact ⟨h.1.2, h.1.1.1, h.1.1.2, h.2⟩
theorem okF_of {f : Rows} (h : okF f = true) : 1 ≤ f.length ∧ f.length ≤ 8 ∧ ∀ r ∈ f, okRow (wid f) r = true := by
  unfold okF at h
  simp only [Bool.and_eq_true, decide_eq_true_eq] at h
  exact ⟨h.1.1, h.1.2, List.all_eq_true.mp h.2⟩
/-- whether all signs are such, by how many there are of either -/
theorem signs_count (r : List Nat) : (((r.count 46 : Nat) : Int) + ((r.count 35 : Nat) : Int) = ((r.length : Nat) : Int)) ↔ r.all isSign = true := by
  have h : ∀ r : List Nat, r.count 46 + r.count 35 ≤ r.length ∧ (r.count 46 + r.count 35 = r.length ↔ r.all isSign = true) := by
    intro r
    induction r with
    | nil => exact ⟨Nat.le_refl _, by simp⟩
    | cons c r ih =>
      obtain ⟨h1, h2⟩ := ih
      rw [List.count_cons, List.count_cons, List.length_cons, List.all_cons]
      by_cases e1 : c = 46
      · subst e1
        have : isSign 46 = true := by decide
        rw [this]
        simp only [Bool.true_and]
        refine ⟨by simp; omega, ?_⟩
        rw [← h2]
        simp
        omega
      · by_cases e2 : c = 35
        · subst e2
          have : isSign 35 = true := by decide
          rw [this]
          simp only [Bool.true_and]
          refine ⟨by simp; omega, ?_⟩
          rw [← h2]
          simp
          omega
        · have : isSign c = false := by
            unfold isSign
            simp [e1, e2]
          rw [this]
          simp [e1, e2]
          omega
  have := (h r).2
  rw [← this]
  omega
/-- what the law's own floor is -/
def fsign (b : Bool) : Nat := if b then 35 else 46
theorem fsign_sign (b : Bool) : isSign (fsign b) = true := by cases b <;> decide
theorem okF_rect {f : Rows} {n m : Nat} (h1 : f.length = n) (h2 : 1 ≤ n ∧ n ≤ 8) (h3 : 1 ≤ m ∧ m ≤ 8) (h : ∀ r ∈ f, r.length = m ∧ r.all isSign = true) : okF f = true ∧ wid f = m := by
  have hw : wid f = m := by
    cases f with
    | nil => simp at h1; omega
    | cons r t => exact (h r List.mem_cons_self).1
  refine ⟨?_, hw⟩
  unfold okF
  simp only [Bool.and_eq_true, decide_eq_true_eq]
  refine ⟨⟨by omega, by omega⟩, List.all_eq_true.mpr fun r hr => ?_⟩
  obtain ⟨a, b⟩ := h r hr
  unfold okRow
  rw [hw, b]
  simp only [Bool.and_eq_true, decide_eq_true_eq]
  exact ⟨⟨⟨by omega, by omega⟩, a⟩, trivial⟩
end Flo

/-! Cnt: how often a sign stands in a text. -/
namespace Roll
open PySem L2 Lay PySem.StrLaws Builtin Builtin.Str
theorem occ_size (x : Str) (c limit : Nat) : ∀ (n lo free : Nat) (arr : Array Nat), free ≤ lo → arr.size + n ≤ limit →
    (forIn (List.range' lo n) (arr, free) (occBody x ⟨#[c]⟩ x.length limit)).run.fst.size = arr.size + (List.range' lo n).countP fun i => decide (x.cps.toList[i]? = some c)
  | 0, lo, free, arr, _, _ => by simp
  | n + 1, lo, free, arr, hf, hl => by
    rw [List.range'_succ, List.forIn_cons, List.countP_cons]
    unfold occBody
    by_cases h : x.cps.toList[lo]? = some c
    · have hs := (subAt_one x c lo).mpr h
      rw [if_pos ⟨⟨⟨by show arr.size < limit; omega, hf⟩, hs.1⟩, hs.2⟩]
      have ih := occ_size x c limit n (lo + 1) (lo + 1) (arr.push lo) (Nat.le_refl _) (by rw [Array.size_push]; omega)
      rw [decide_eq_true h]
      show (forIn (List.range' (lo + 1) n) (arr.push lo, lo + 1) (occBody x ⟨#[c]⟩ x.length limit)).run.fst.size = _
      rw [ih, Array.size_push]
      simp
      omega
    · rw [if_neg (fun z => h ((subAt_one x c lo).mp ⟨z.1.2, z.2⟩))]
      have ih := occ_size x c limit n (lo + 1) free arr (Nat.le_succ_of_le hf) (by omega)
      rw [decide_eq_false h]
      show (forIn (List.range' (lo + 1) n) (arr, free) (occBody x ⟨#[c]⟩ x.length limit)).run.fst.size = _
      rw [ih]
      simp
theorem countP_at (c : Nat) : ∀ l : List Nat, ((List.range (l.length + 1)).countP fun i => decide (l[i]? = some c)) = l.count c
  | [] => by simp
  | a :: t => by
    have ih := countP_at c t
    rw [List.length_cons, List.range_succ_eq_map, List.countP_cons, List.countP_map, List.count_cons]
    have e : ((fun i => decide ((a :: t)[i]? = some c)) ∘ Nat.succ) = fun i => decide (t[i]? = some c) := by
      funext i
      simp
    rw [e, ih]
    by_cases h : a = c
    · simp [h]
    · simp [h]
theorem count_one (x : Str) (c : Nat) : Txt.count x ⟨#[c]⟩ = ((x.cps.toList.count c : Nat) : Int) := by
  unfold Txt.count
  rw [occ_eq]
  have h := occ_size x c (x.length + 1) (x.length + 1) 0 0 #[] (Nat.le_refl _) (by simp)
  have e : x.cps.toList.length = x.length := by simp [Str.length]
  have h2 := countP_at c x.cps.toList
  rw [e, List.range_eq_range'] at h2
  rw [h2] at h
  rw [Array.length_toList]
  have h3 : (forIn (List.range' 0 (x.length + 1 - 0)) ((#[] : Array Nat), 0) (occBody x ⟨#[c]⟩ x.length (x.length + 1))).run.fst.size = x.cps.toList.count c := by
    rw [Nat.sub_zero, h]
    simp
  rw [h3]
theorem count_tx (cs : List Nat) (c : Nat) : Txt.count (tx cs) ⟨#[c]⟩ = ((cs.count c : Nat) : Int) := by
  rw [count_one, tx_list]
theorem sign_dot : ("." : Str) = ⟨#[46]⟩ := by decide +kernel
theorem sign_hash : ("#" : Str) = ⟨#[35]⟩ := by decide +kernel
theorem signs_list : (".#" : Str).cps.toList = [46, 35] := by decide +kernel
/-! floors as data -/
abbrev tS (cs : List Nat) : PyData := .str (tx cs)
abbrev fl (f : Flo.Rows) : PyData := .list (f.map tS)
end Roll

/-! Sta: stands on floors, in plain Lean. -/
namespace Sta
open Flo Die
abbrev P2 := Int × Int
abbrev Sd := P2 × L3
def sgn (f : Rows) (i j : Nat) : Nat := (f.getD i []).getD j 0
def isCell (f : Rows) (p : P2) : Bool := decide (0 ≤ p.1) && decide (p.1 < (f.length : Nat)) && (decide (0 ≤ p.2) && decide (p.2 < (wid f : Nat))) && decide (sgn f p.1.toNat p.2.toNat = 46)
def stepC (c : Nat) : Option P2 := if c = 110 then some (-1, 0) else if c = 101 then some (0, 1) else if c = 115 then some (1, 0) else if c = 119 then some (0, -1) else none
def next (f : Rows) (s : Sd) (c : Nat) : Option Sd := match stepC c with
  | none => none
  | some d => if isCell f (s.1.1 + d.1, s.1.2 + d.2) = true then some ((s.1.1 + d.1, s.1.2 + d.2), roll s.2 c) else none
def walk (f : Rows) (s : Sd) : List Nat → Option Sd
  | [] => some s
  | c :: cs => (next f s c).bind fun t => walk f t cs
theorem walk_app (f : Rows) : ∀ (a b : List Nat) (s : Sd), walk f s (a ++ b) = (walk f s a).bind fun t => walk f t b
  | [], _, _ => rfl
  | c :: a, b, s => by
    show ((next f s c).bind fun t => walk f t (a ++ b)) = ((next f s c).bind fun t => walk f t a).bind fun t => walk f t b
    cases next f s c with
    | none => rfl
    | some t => exact walk_app f a b t
theorem walk_one (f : Rows) (s : Sd) (c : Nat) : walk f s [c] = next f s c := by
  show (next f s c).bind (fun t => some t) = next f s c
  cases next f s c <;> rfl
theorem walk_snoc (f : Rows) (s : Sd) (a : List Nat) (c : Nat) : walk f s (a ++ [c]) = (walk f s a).bind fun t => next f t c := by
  rw [walk_app]
  congr 1
  funext t
  exact walk_one f t c
theorem isCell_of {f : Rows} {p : P2} (h : isCell f p = true) : ∃ i j : Nat, p = ((i : Int), (j : Int)) ∧ i < f.length ∧ j < wid f ∧ sgn f i j = 46 := by
  unfold isCell at h
  simp only [Bool.and_eq_true, decide_eq_true_eq] at h
  obtain ⟨⟨⟨h1, h2⟩, h3, h4⟩, h5⟩ := h
  obtain ⟨i, hi⟩ := Int.eq_ofNat_of_zero_le h1
  obtain ⟨j, hj⟩ := Int.eq_ofNat_of_zero_le h3
  refine ⟨i, j, Prod.ext hi hj, by omega, by omega, ?_⟩
  rw [hi, hj] at h5
  exact h5
theorem isCell_mk {f : Rows} {i j : Nat} (hi : i < f.length) (hj : j < wid f) (h : sgn f i j = 46) : isCell f ((i : Int), (j : Int)) = true := by
  unfold isCell
  simp only [Bool.and_eq_true, decide_eq_true_eq]
  refine ⟨⟨⟨by omega, by omega⟩, by omega, by omega⟩, ?_⟩
  exact h
theorem step_letter {c : Nat} : (stepC c).isSome = decide (c ∈ ([101, 110, 115, 119] : List Nat)) := by
  unfold stepC
  by_cases h1 : c = 110
  · subst h1; rfl
  by_cases h2 : c = 101
  · subst h2; rfl
  by_cases h3 : c = 115
  · subst h3; rfl
  by_cases h4 : c = 119
  · subst h4; rfl
  rw [if_neg h1, if_neg h2, if_neg h3, if_neg h4]
  simp [h1, h2, h3, h4]
/-- the cells in order -/
def cells (f : Rows) : List P2 := (List.range f.length).flatMap fun i => ((List.range (wid f)).filter fun j : Nat => decide (sgn f i j = 46)).map fun j : Nat => ((i : Int), (j : Int))
theorem mem_cells {f : Rows} {p : P2} : p ∈ cells f ↔ isCell f p = true := by
  unfold cells
  rw [List.mem_flatMap]
  constructor
  · rintro ⟨i, hi, h⟩
    obtain ⟨j, hj, rfl⟩ := List.mem_map.mp h
    rw [List.mem_filter] at hj
    exact isCell_mk (List.mem_range.mp hi) (List.mem_range.mp hj.1) (of_decide_eq_true hj.2)
  · intro h
    obtain ⟨i, j, rfl, hi, hj, hs⟩ := isCell_of h
    exact ⟨i, List.mem_range.mpr hi, List.mem_map.mpr ⟨j, List.mem_filter.mpr ⟨List.mem_range.mpr hj, decide_eq_true hs⟩, rfl⟩⟩
end Sta

/-! Bfs: distances of stands; the two searches' words, in plain Lean. -/
namespace Bfs
open Flo Die Sta
/-- a row of n rolls leads from s to t -/
def Goes (f : Rows) (s t : Sd) (n : Nat) : Prop := ∃ cs : List Nat, cs.length = n ∧ walk f s cs = some t
def Dist (f : Rows) (s t : Sd) (n : Nat) : Prop := Goes f s t n ∧ ∀ k, Goes f s t k → n ≤ k
theorem Goes.zero {f : Rows} {s t : Sd} (h : Goes f s t 0) : t = s := by
  obtain ⟨cs, h1, h2⟩ := h
  have : cs = [] := List.eq_nil_of_length_eq_zero h1
  subst this
  exact (Option.some.inj h2).symm
theorem Goes.nil (f : Rows) (s : Sd) : Goes f s s 0 := ⟨[], rfl, rfl⟩
theorem Goes.snoc {f : Rows} {s t u : Sd} {n c : Nat} (h : Goes f s t n) (hn : next f t c = some u) : Goes f s u (n + 1) := by
  obtain ⟨cs, h1, h2⟩ := h
  refine ⟨cs ++ [c], by rw [List.length_append, h1]; rfl, ?_⟩
  rw [walk_snoc, h2]
  exact hn
theorem Goes.pred {f : Rows} {s u : Sd} {n : Nat} (h : Goes f s u (n + 1)) : ∃ t c, Goes f s t n ∧ next f t c = some u := by
  obtain ⟨cs, h1, h2⟩ := h
  obtain ⟨a, c, rfl⟩ : ∃ a c, cs = a ++ [c] := by
    refine ⟨cs.dropLast, cs.getLast (by intro z; rw [z] at h1; cases h1), ?_⟩
    exact (List.dropLast_concat_getLast _).symm
  rw [walk_snoc] at h2
  cases ht : walk f s a with
  | none => rw [ht] at h2; cases h2
  | some t =>
    rw [ht] at h2
    refine ⟨t, c, ⟨a, ?_, ht⟩, h2⟩
    rw [List.length_append] at h1
    exact Nat.succ.inj h1
theorem Goes.cons {f : Rows} {s t u : Sd} {n c : Nat} (hn : next f s c = some t) (h : Goes f t u n) : Goes f s u (n + 1) := by
  obtain ⟨cs, h1, h2⟩ := h
  refine ⟨c :: cs, by rw [List.length_cons, h1], ?_⟩
  show ((next f s c).bind fun t => walk f t cs) = some u
  rw [hn]
  exact h2
theorem Goes.head {f : Rows} {s u : Sd} {n : Nat} (h : Goes f s u (n + 1)) : ∃ t c, next f s c = some t ∧ Goes f t u n := by
  obtain ⟨cs, h1, h2⟩ := h
  cases cs with
  | nil => cases h1
  | cons c cs =>
    cases ht : next f s c with
    | none =>
      have h2 : ((next f s c).bind fun t => walk f t cs) = some u := h2
      rw [ht] at h2
      cases h2
    | some t =>
      have h2 : ((next f s c).bind fun t => walk f t cs) = some u := h2
      rw [ht] at h2
      exact ⟨t, c, ht, cs, Nat.succ.inj h1, h2⟩
theorem Goes.trans {f : Rows} {s t u : Sd} {n m : Nat} (a : Goes f s t n) (b : Goes f t u m) : Goes f s u (n + m) := by
  obtain ⟨cs, h1, h2⟩ := a
  obtain ⟨ds, k1, k2⟩ := b
  refine ⟨cs ++ ds, by rw [List.length_append, h1, k1], ?_⟩
  rw [walk_app, h2]
  exact k2
theorem Dist.uniq {f : Rows} {s t : Sd} {n m : Nat} (a : Dist f s t n) (b : Dist f s t m) : n = m := Nat.le_antisymm (a.2 _ b.1) (b.2 _ a.1)
theorem dist_of {f : Rows} {s t : Sd} {n : Nat} (h : Goes f s t n) : ∃ k, k ≤ n ∧ Dist f s t k := by
  induction n using Nat.strongRecOn with
  | ind n ih =>
    by_cases hm : ∃ k, k < n ∧ Goes f s t k
    · obtain ⟨k, hk, hg⟩ := hm
      obtain ⟨j, h1, h2⟩ := ih k hk hg
      exact ⟨j, by omega, h2⟩
    · exact ⟨n, Nat.le_refl n, h, fun k hk => by
        by_cases hlt : k < n
        · exact absurd ⟨k, hlt, hk⟩ hm
        · omega⟩
theorem Dist.self (f : Rows) (s : Sd) : Dist f s s 0 := ⟨Goes.nil f s, fun _ _ => Nat.zero_le _⟩
/-- the last step of a shortest row -/
theorem Dist.pred {f : Rows} {s u : Sd} {n : Nat} (h : Dist f s u (n + 1)) : ∃ t c, Dist f s t n ∧ next f t c = some u := by
  obtain ⟨t, c, h1, h2⟩ := h.1.pred
  refine ⟨t, c, ⟨h1, fun k hk => ?_⟩, h2⟩
  have := h.2 _ (hk.snoc h2)
  omega
theorem next_letter {f : Rows} {s t : Sd} {c : Nat} (h : next f s c = some t) : c ∈ ([101, 110, 115, 119] : List Nat) := by
  have e := Sta.step_letter (c := c)
  unfold next at h
  cases hs : stepC c with
  | none => rw [hs] at h; cases h
  | some d => rw [hs] at e; exact of_decide_eq_true e.symm
theorem next_cell {f : Rows} {s t : Sd} {c : Nat} (h : next f s c = some t) : isCell f t.1 = true ∧ t.2 = roll s.2 c := by
  unfold next at h
  cases hs : stepC c with
  | none => rw [hs] at h; cases h
  | some d =>
    rw [hs] at h
    simp only at h
    split at h
    · rename_i hc
      cases h
      exact ⟨hc, rfl⟩
    · cases h
/-- a stand: a cell, a right lie -/
def isStand (f : Rows) (s : Sd) : Prop := isCell f s.1 = true ∧ isLie s.2 = true
theorem next_stand {f : Rows} {s t : Sd} {c : Nat} (hs : isStand f s) (h : next f s c = some t) : isStand f t := by
  obtain ⟨h1, h2⟩ := next_cell h
  refine ⟨h1, ?_⟩
  rw [h2]
  exact roll_right hs.2 c
theorem goes_stand {f : Rows} {s : Sd} (hs : isStand f s) : ∀ {n : Nat} {t : Sd}, Goes f s t n → isStand f t
  | 0, t, h => by rw [h.zero]; exact hs
  | n + 1, t, h => by
    obtain ⟨u, c, h1, h2⟩ := h.pred
    exact next_stand (goes_stand hs h1) h2
/-- all stands -/
def stands (f : Rows) : List Sd := (cells f).flatMap fun p => lies24.map fun l => (p, l)
theorem mem_stands {f : Rows} {s : Sd} (h : isStand f s) : s ∈ stands f := by
  unfold stands
  refine List.mem_flatMap.mpr ⟨s.1, mem_cells.mpr h.1, List.mem_map.mpr ⟨s.2, ?_, rfl⟩⟩
  rw [← lies_eq]
  exact mem_lies.mpr h.2
theorem stands_len (f : Rows) : (stands f).length = 24 * (cells f).length := by
  unfold stands
  generalize cells f = cs
  induction cs with
  | nil => rfl
  | cons c cs ih =>
    rw [List.flatMap_cons, List.length_append, ih, List.length_map, List.length_cons]
    show 24 + _ = _
    omega
theorem nodup_le {α : Type} [DecidableEq α] : ∀ {l u : List α}, l.Nodup → (∀ x ∈ l, x ∈ u) → l.length ≤ u.length
  | [], _, _, _ => Nat.zero_le _
  | x :: l, u, hn, h => by
    rw [List.nodup_cons] at hn
    have hx := h x List.mem_cons_self
    have ih := nodup_le (l := l) (u := u.erase x) hn.2 fun y hy => by
      have hne : y ≠ x := fun z => hn.1 (z ▸ hy)
      exact (List.mem_erase_of_ne hne).mpr (h y (List.mem_cons_of_mem _ hy))
    rw [List.length_erase_of_mem hx] at ih
    have := List.length_pos_of_mem hx
    rw [List.length_cons]
    omega
abbrev Mp := List (Sd × Nat)
/-- m is the map of distances -/
structure IsMap (f : Rows) (s : Sd) (m : Mp) : Prop where
  nd : (m.map (·.1)).Nodup
  iff : ∀ t n, (t, n) ∈ m ↔ Dist f s t n
theorem map_len {f : Rows} {s : Sd} (hs : isStand f s) {m : Mp} (hn : (m.map (·.1)).Nodup) (h : ∀ t n, (t, n) ∈ m → Dist f s t n) : m.length ≤ 24 * (cells f).length := by
  rw [← stands_len, ← List.length_map (f := (·.1))]
  refine nodup_le hn fun t ht => ?_
  obtain ⟨⟨t', n⟩, hp, rfl⟩ := List.mem_map.mp ht
  exact mem_stands (goes_stand hs (h _ _ hp).1)
/-! ### the search by a queue -/
/-- a place in the search: the stands before i are done -/
structure Qu (f : Rows) (s : Sd) (m : Mp) (i : Nat) (done : Nat → Prop) : Prop where
  nd : (m.map (·.1)).Nodup
  ex : ∀ t n, (t, n) ∈ m → Dist f s t n
  st : (s, 0) ∈ m
  up : (m.map (·.2)).Pairwise (· ≤ ·)
  lo : ∀ p, m[i]? = some p → ∀ q ∈ m, q.2 ≤ p.2 + 1
  cl : ∀ j p, j < i → m[j]? = some p → ∀ c t, next f p.1 c = some t → t ∈ m.map (·.1)
  now : ∀ p, m[i]? = some p → ∀ c, done c → ∀ t, next f p.1 c = some t → t ∈ m.map (·.1)
theorem qu_start (f : Rows) (s : Sd) : Qu f s [(s, 0)] 0 (fun _ => False) where
  nd := by simp
  ex := fun t n h => by
    rw [List.mem_singleton] at h
    cases h
    exact Dist.self f s
  st := List.mem_singleton.mpr rfl
  up := by simp
  lo := fun p hp q hq => by
    rw [List.mem_singleton] at hq
    subst hq
    exact Nat.zero_le _
  cl := fun j p hj => absurd hj (Nat.not_lt_zero _)
  now := fun _ _ _ h => h.elim
theorem pw_le {l : List Nat} (h : l.Pairwise (· ≤ ·)) {i j : Nat} {a b : Nat} (hij : i ≤ j) (ha : l[i]? = some a) (hb : l[j]? = some b) : a ≤ b := by
  by_cases e : i = j
  · subst e
    rw [ha] at hb
    cases hb
    exact Nat.le_refl _
  · obtain ⟨h1, e1⟩ := List.getElem?_eq_some_iff.mp ha
    obtain ⟨h2, e2⟩ := List.getElem?_eq_some_iff.mp hb
    have := (List.pairwise_iff_getElem.mp h) i j h1 h2 (by omega)
    rw [e1, e2] at this
    exact this
/-- all that can be come to in at most so many rolls as the stand in hand is there -/
theorem Qu.full {f : Rows} {s : Sd} {m : Mp} {i : Nat} {done : Nat → Prop} (q : Qu f s m i done) {p : Sd × Nat} (hp : m[i]? = some p) : ∀ (k : Nat) (t : Sd), k ≤ p.2 → Goes f s t k → t ∈ m.map (·.1)
  | 0, t, _, h => by
    rw [h.zero]
    exact List.mem_map.mpr ⟨_, q.st, rfl⟩
  | k + 1, t, hk, h => by
    obtain ⟨u, c, h1, h2⟩ := h.pred
    have hu := q.full hp k u (by omega) h1
    obtain ⟨⟨u', n⟩, hm, rfl⟩ := List.mem_map.mp hu
    have hd := q.ex _ _ hm
    have hn : n ≤ k := hd.2 _ h1
    obtain ⟨j, hj⟩ := List.mem_iff_getElem?.mp hm
    have hji : j < i := by
      by_cases hlt : j < i
      · exact hlt
      · have e1 : (m.map (·.2))[i]? = some p.2 := by rw [List.getElem?_map, hp]; rfl
        have e2 : (m.map (·.2))[j]? = some n := by rw [List.getElem?_map, hj]; rfl
        have := pw_le q.up (by omega) e1 e2
        omega
    exact q.cl j _ hji hj c t h2
/-- a new stand, one roll behind the one in hand -/
theorem Qu.add {f : Rows} {s : Sd} {m : Mp} {i : Nat} {done : Nat → Prop} (q : Qu f s m i done) {p : Sd × Nat} (hp : m[i]? = some p) {c : Nat} {t : Sd} (hn : next f p.1 c = some t) (ht : t ∉ m.map (·.1)) : Qu f s (m ++ [(t, p.2 + 1)]) i (fun d => done d ∨ d = c) := by
  have hi : i < m.length := (List.getElem?_eq_some_iff.mp hp).1
  have hpm := List.mem_of_getElem? hp
  have hget : (m ++ [(t, p.2 + 1)])[i]? = some p := by rw [List.getElem?_append_left hi]; exact hp
  refine ⟨?_, fun u n h => ?_, List.mem_append_left _ q.st, ?_, fun p' hp' r hr => ?_, fun j p' hj hp' d u hu => ?_, fun p' hp' d hd u hu => ?_⟩
  · rw [List.map_append, List.nodup_append]
    refine ⟨q.nd, by simp, fun a ha b hb e => ?_⟩
    rw [List.map_cons, List.map_nil, List.mem_singleton] at hb
    subst hb
    subst e
    exact ht ha
  · rw [List.mem_append, List.mem_singleton] at h
    rcases h with h | h
    · exact q.ex u n h
    · cases h
      refine ⟨(q.ex _ _ hpm).1.snoc hn, fun k hk => ?_⟩
      by_cases hlt : k ≤ p.2
      · exact absurd (q.full hp k t hlt hk) ht
      · omega
  · rw [List.map_append, List.pairwise_append]
    refine ⟨q.up, by simp, fun a ha b hb => ?_⟩
    rw [List.map_cons, List.map_nil, List.mem_singleton] at hb
    subst hb
    obtain ⟨r, hr, rfl⟩ := List.mem_map.mp ha
    exact q.lo p hp r hr
  · rw [hget] at hp'
    cases hp'
    rw [List.mem_append, List.mem_singleton] at hr
    rcases hr with hr | hr
    · exact q.lo p hp r hr
    · subst hr
      exact Nat.le_refl _
  · rw [List.getElem?_append_left (by omega)] at hp'
    rw [List.map_append]
    exact List.mem_append_left _ (q.cl j p' hj hp' d u hu)
  · rw [hget] at hp'
    cases hp'
    rw [List.map_append]
    rcases hd with hd | hd
    · exact List.mem_append_left _ (q.now p hp d hd u hu)
    · subst hd
      rw [hn] at hu
      cases hu
      exact List.mem_append_right _ (by simp)
theorem Qu.skip {f : Rows} {s : Sd} {m : Mp} {i : Nat} {done : Nat → Prop} (q : Qu f s m i done) {p : Sd × Nat} (hp : m[i]? = some p) {c : Nat} (h : ∀ t, next f p.1 c = some t → t ∈ m.map (·.1)) : Qu f s m i (fun d => done d ∨ d = c) :=
  ⟨q.nd, q.ex, q.st, q.up, q.lo, q.cl, fun p' hp' d hd t ht => by
    rw [hp] at hp'
    cases hp'
    rcases hd with hd | hd
    · exact q.now p hp d hd t ht
    · subst hd
      exact h t ht⟩
theorem Qu.next {f : Rows} {s : Sd} {m : Mp} {i : Nat} {done : Nat → Prop} (q : Qu f s m i done) (h : ∀ c ∈ ([101, 110, 115, 119] : List Nat), done c) : Qu f s m (i + 1) (fun _ => False) := by
  refine ⟨q.nd, q.ex, q.st, q.up, fun p' hp' r hr => ?_, fun j p' hj hp' c t ht => ?_, fun _ _ _ h => h.elim⟩
  · have h1 : i < m.length := by
      have := (List.getElem?_eq_some_iff.mp hp').1
      omega
    have hp : m[i]? = some m[i] := List.getElem?_eq_getElem h1
    have e1 : (m.map (·.2))[i]? = some m[i].2 := by rw [List.getElem?_map, hp]; rfl
    have e2 : (m.map (·.2))[i + 1]? = some p'.2 := by rw [List.getElem?_map, hp']; rfl
    have := pw_le q.up (by omega) e1 e2
    have := q.lo _ hp r hr
    omega
  · by_cases hji : j < i
    · exact q.cl j p' hji hp' c t ht
    · have : j = i := by omega
      subst this
      exact q.now p' hp' c (h c (next_letter ht)) t ht
theorem Qu.end {f : Rows} {s : Sd} {m : Mp} {done : Nat → Prop} (q : Qu f s m m.length done) : IsMap f s m := by
  refine ⟨q.nd, fun t n => ⟨q.ex t n, fun h => ?_⟩⟩
  have all : ∀ (k : Nat) (t : Sd), Goes f s t k → t ∈ m.map (·.1) := by
    intro k
    induction k with
    | zero =>
      intro t h
      rw [h.zero]
      exact List.mem_map.mpr ⟨_, q.st, rfl⟩
    | succ k ih =>
      intro t h
      obtain ⟨u, c, h1, h2⟩ := h.pred
      obtain ⟨⟨u', n⟩, hm, rfl⟩ := List.mem_map.mp (ih u h1)
      obtain ⟨j, hj⟩ := List.mem_iff_getElem?.mp hm
      exact q.cl j _ (List.getElem?_eq_some_iff.mp hj).1 hj c t h2
  obtain ⟨⟨t', n'⟩, hm, rfl⟩ := List.mem_map.mp (all n t h.1)
  have := (q.ex _ _ hm).uniq h
  subst this
  exact hm
/-! ### the search by rings -/
/-- all of distance at most d are there; the ring d in hand, done those that it tells -/
structure Ri (f : Rows) (s : Sd) (m : Mp) (edge more : List Sd) (d : Nat) (done : Sd → Nat → Prop) : Prop where
  nd : (m.map (·.1)).Nodup
  ex : ∀ t n, (t, n) ∈ m → Dist f s t n
  full : ∀ t n, n ≤ d → Dist f s t n → (t, n) ∈ m
  ring : ∀ t, t ∈ edge ↔ Dist f s t d
  more : ∀ t, t ∈ more ↔ (t, d + 1) ∈ m
  top : ∀ t n, (t, n) ∈ m → n ≤ d + 1
  now : ∀ u c, u ∈ edge → done u c → ∀ t, next f u c = some t → t ∈ m.map (·.1)
theorem ri_start (f : Rows) (s : Sd) : Ri f s [(s, 0)] [s] [] 0 (fun _ _ => False) where
  nd := by simp
  ex := fun t n h => by
    rw [List.mem_singleton] at h
    cases h
    exact Dist.self f s
  full := fun t n hn h => by
    have : n = 0 := by omega
    subst this
    rw [h.1.zero]
    exact List.mem_singleton.mpr rfl
  ring := fun t => by
    rw [List.mem_singleton]
    constructor
    · intro e
      subst e
      exact Dist.self f t
    · intro h
      exact h.1.zero
  more := fun t => by simp
  top := fun t n h => by
    rw [List.mem_singleton] at h
    cases h
    omega
  now := fun _ _ _ h => h.elim
theorem Ri.add {f : Rows} {s : Sd} {m : Mp} {edge more : List Sd} {d : Nat} {done : Sd → Nat → Prop} (q : Ri f s m edge more d done) {u t : Sd} {c : Nat} (hu : u ∈ edge) (hn : next f u c = some t) (ht : t ∉ m.map (·.1)) : Ri f s (m ++ [(t, d + 1)]) edge (more ++ [t]) d (fun v e => done v e ∨ (v = u ∧ e = c)) := by
  refine ⟨?_, fun v n h => ?_, fun v n hn' h => List.mem_append_left _ (q.full v n hn' h), q.ring, fun v => ?_, fun v n h => ?_, fun v e hv he w hw => ?_⟩
  · rw [List.map_append, List.nodup_append]
    refine ⟨q.nd, by simp, fun a ha b hb e => ?_⟩
    rw [List.map_cons, List.map_nil, List.mem_singleton] at hb
    subst hb
    subst e
    exact ht ha
  · rw [List.mem_append, List.mem_singleton] at h
    rcases h with h | h
    · exact q.ex v n h
    · cases h
      refine ⟨((q.ring u).mp hu).1.snoc hn, fun k hk => ?_⟩
      by_cases hlt : k ≤ d
      · obtain ⟨j, hj, hd⟩ := dist_of hk
        exact absurd (List.mem_map.mpr ⟨_, q.full t j (by omega) hd, rfl⟩) ht
      · omega
  · rw [List.mem_append, List.mem_append, List.mem_singleton, List.mem_singleton, q.more]
    constructor
    · rintro (h | h)
      · exact .inl h
      · exact .inr (by rw [h])
    · rintro (h | h)
      · exact .inl h
      · exact .inr (congrArg Prod.fst h)
  · rw [List.mem_append, List.mem_singleton] at h
    rcases h with h | h
    · exact q.top v n h
    · cases h
      exact Nat.le_refl _
  · rw [List.map_append]
    rcases he with he | ⟨h1, h2⟩
    · exact List.mem_append_left _ (q.now v e hv he w hw)
    · subst h1 h2
      rw [hn] at hw
      cases hw
      exact List.mem_append_right _ (by simp)
theorem Ri.skip {f : Rows} {s : Sd} {m : Mp} {edge more : List Sd} {d : Nat} {done : Sd → Nat → Prop} (q : Ri f s m edge more d done) {u : Sd} {c : Nat} (h : ∀ t, next f u c = some t → t ∈ m.map (·.1)) : Ri f s m edge more d (fun v e => done v e ∨ (v = u ∧ e = c)) :=
  ⟨q.nd, q.ex, q.full, q.ring, q.more, q.top, fun v e hv he w hw => by
    rcases he with he | ⟨h1, h2⟩
    · exact q.now v e hv he w hw
    · subst h1 h2
      exact h w hw⟩
theorem Ri.next {f : Rows} {s : Sd} {m : Mp} {edge more : List Sd} {d : Nat} {done : Sd → Nat → Prop} (q : Ri f s m edge more d done) (h : ∀ u ∈ edge, ∀ c ∈ ([101, 110, 115, 119] : List Nat), done u c) : Ri f s m more [] (d + 1) (fun _ _ => False) := by
  have hfull : ∀ t, Dist f s t (d + 1) → (t, d + 1) ∈ m := fun t ht => by
    obtain ⟨u, c, h1, h2⟩ := ht.pred
    have hu := (q.ring u).mpr h1
    obtain ⟨⟨t', n⟩, hm, rfl⟩ := List.mem_map.mp (q.now u c hu (h u hu c (next_letter h2)) t h2)
    have := (q.ex _ _ hm).uniq ht
    subst this
    exact hm
  refine ⟨q.nd, q.ex, fun t n hn ht => ?_, fun t => ?_, fun t => ?_, fun t n hm => Nat.le_succ_of_le (q.top t n hm), fun _ _ _ h => h.elim⟩
  · by_cases e : n = d + 1
    · subst e
      exact hfull t ht
    · exact q.full t n (by omega) ht
  · rw [q.more]
    exact ⟨q.ex _ _, hfull t⟩
  · constructor
    · intro h
      cases h
    · intro hm
      have := q.top _ _ hm
      omega
theorem Ri.end {f : Rows} {s : Sd} {m : Mp} {d : Nat} {done : Sd → Nat → Prop} (q : Ri f s m [] [] d done) : IsMap f s m := by
  have none : ∀ k t, ¬ Dist f s t (d + k) := by
    intro k
    induction k with
    | zero => intro t ht; have := (q.ring t).mpr ht; cases this
    | succ k ih =>
      intro t ht
      obtain ⟨u, c, h1, _⟩ := Dist.pred (n := d + k) ht
      exact ih u h1
  refine ⟨q.nd, fun t n => ⟨q.ex t n, fun h => ?_⟩⟩
  by_cases hn : n ≤ d
  · exact q.full t n hn h
  · have e : n = d + (n - d) := by omega
    rw [e] at h
    exact absurd h (none _ t)
end Bfs

/-! Bfs2: the lies at a cell; rolls there and back. -/
namespace Bfs
open Flo Die Sta
open Classical in
/-- the lies in which the die can come to lie at p, in order -/
noncomputable def endsL (f : Rows) (s : Sd) (p : P2) : List L3 := lies24.filter fun l => decide (∃ n, Goes f s (p, l) n)
theorem mem_endsL {f : Rows} {s : Sd} (hs : isStand f s) {p : P2} {l : L3} : l ∈ endsL f s p ↔ ∃ n, Goes f s (p, l) n := by
  unfold endsL
  rw [List.mem_filter]
  simp only [decide_eq_true_eq]
  refine ⟨fun h => h.2, fun h => ⟨?_, h⟩⟩
  obtain ⟨n, hn⟩ := h
  rw [← lies_eq]
  exact mem_lies.mpr (goes_stand hs hn).2
theorem nodup_perm {α : Type} [DecidableEq α] : ∀ {l u : List α}, l.Nodup → u.Nodup → (∀ x, x ∈ l ↔ x ∈ u) → l.Perm u
  | [], u, _, _, h => by
    cases u with
    | nil => exact .nil
    | cons x u => exact absurd ((h x).mpr List.mem_cons_self) (by simp)
  | x :: l, u, hn, hu, h => by
    rw [List.nodup_cons] at hn
    have hx := (h x).mp List.mem_cons_self
    have hne := List.Nodup.not_mem_erase hu (a := x)
    have ih := nodup_perm (l := l) (u := u.erase x) hn.2 (hu.erase x) fun y => by
      constructor
      · intro hy
        have e : y ≠ x := fun z => hn.1 (z ▸ hy)
        exact (List.mem_erase_of_ne e).mpr ((h y).mp (List.mem_cons_of_mem _ hy))
      · intro hy
        have e : y ≠ x := fun z => hne (z ▸ hy)
        have := (h y).mpr ((List.mem_erase_of_ne e).mp hy)
        rcases List.mem_cons.mp this with z | z
        · exact absurd z e
        · exact z
    exact (List.Perm.cons x ih).trans (List.perm_cons_erase hx).symm
theorem lies24_nodup : lies24.Nodup := by decide +kernel
theorem endsL_nodup (f : Rows) (s : Sd) (p : P2) : (endsL f s p).Nodup := lies24_nodup.filter _
theorem endsL_up (f : Rows) (s : Sd) (p : P2) : ((endsL f s p).map lst).Pairwise (· ≤ ·) := lies_up.sublist (List.Sublist.map _ List.filter_sublist)
theorem lst_inj {a b : L3} (h : lst a = lst b) : a = b := by
  obtain ⟨a1, a2, a3⟩ := a
  obtain ⟨b1, b2, b3⟩ := b
  unfold lst at h
  simp only [List.cons.injEq, and_true] at h
  obtain ⟨rfl, rfl, rfl⟩ := h
  rfl
/-- those that a map tells -/
theorem ends_perm {f : Rows} {s : Sd} (hs : isStand f s) {m : Mp} (h : IsMap f s m) (p : P2) : ((((m.map (·.1)).filter fun z => decide (z.1 = p)).map fun z => lst z.2)).Perm ((endsL f s p).map lst) := by
  have hp : (((m.map (·.1)).filter fun z => decide (z.1 = p)).map (·.2)).Perm (endsL f s p) := by
    refine nodup_perm ?_ (endsL_nodup f s p) fun l => ?_
    · have hn := h.nd.filter (fun z => decide (z.1 = p))
      refine (List.pairwise_map.mpr ?_)
      refine hn.imp_of_mem fun {a b} ha hb hab e => hab ?_
      rw [List.mem_filter] at ha hb
      exact Prod.ext ((of_decide_eq_true ha.2).trans (of_decide_eq_true hb.2).symm) e
    · rw [mem_endsL hs, List.mem_map]
      constructor
      · rintro ⟨z, hz, rfl⟩
        rw [List.mem_filter] at hz
        obtain ⟨⟨t, n⟩, hm, rfl⟩ := List.mem_map.mp hz.1
        have := (h.iff _ _).mp hm
        have e := of_decide_eq_true hz.2
        exact ⟨n, by rw [← e]; exact this.1⟩
      · rintro ⟨n, hn⟩
        obtain ⟨k, _, hd⟩ := dist_of hn
        exact ⟨(p, l), List.mem_filter.mpr ⟨List.mem_map.mpr ⟨_, (h.iff _ _).mpr hd, rfl⟩, decide_eq_true rfl⟩, rfl⟩
  have := hp.map lst
  rw [List.map_map] at this
  exact this
/-! ### there and back -/
def inv (c : Nat) : Nat := if c = 110 then 115 else if c = 115 then 110 else if c = 101 then 119 else 101
theorem roll_inv (l : L3) {c : Nat} (h : c ∈ ([101, 110, 115, 119] : List Nat)) : roll (roll l c) (inv c) = l := by
  simp only [List.mem_cons, List.not_mem_nil, or_false] at h
  obtain ⟨a, b, d⟩ := l
  rcases h with rfl | rfl | rfl | rfl
  · show (_, _, _) = _
    simp only [Prod.mk.injEq]
    refine ⟨rfl, rfl, ?_⟩
    show 7 - (7 - d) = d
    omega
  · show (_, _, _) = _
    simp only [Prod.mk.injEq]
    refine ⟨rfl, ?_, rfl⟩
    show 7 - (7 - b) = b
    omega
  · show (_, _, _) = _
    simp only [Prod.mk.injEq]
    refine ⟨?_, rfl, rfl⟩
    show 7 - (7 - a) = a
    omega
  · show (_, _, _) = _
    simp only [Prod.mk.injEq]
    refine ⟨?_, rfl, rfl⟩
    show 7 - (7 - a) = a
    omega
theorem next_inv {f : Rows} {s t : Sd} {c : Nat} (hs : isCell f s.1 = true) (h : next f s c = some t) : next f t (inv c) = some s := by
  have hc := next_letter h
  have h2 := (next_cell h).2
  unfold next at h ⊢
  have key : ∀ d, stepC c = some d → stepC (inv c) = some (-d.1, -d.2) := by
    simp only [List.mem_cons, List.not_mem_nil, or_false] at hc
    intro d hd
    rcases hc with rfl | rfl | rfl | rfl <;> (have e := Option.some.inj hd; subst e; rfl)
  cases hd : stepC c with
  | none => rw [hd] at h; cases h
  | some d =>
    rw [hd] at h
    rw [key d hd]
    simp only at h ⊢
    split at h
    · cases h
      have e1 : s.1.1 + d.1 + -d.1 = s.1.1 := by omega
      have e2 : s.1.2 + d.2 + -d.2 = s.1.2 := by omega
      simp only [e1, e2]
      rw [if_pos (show isCell f (s.1.1, s.1.2) = true from hs), roll_inv s.2 hc]
    · cases h
theorem Goes.back {f : Rows} {s : Sd} (hs : isStand f s) : ∀ {n : Nat} {t : Sd}, Goes f s t n → Goes f t s n
  | 0, t, h => by rw [h.zero]; exact Goes.nil f s
  | n + 1, t, h => by
    obtain ⟨u, c, h1, h2⟩ := h.pred
    have hu := goes_stand hs h1
    exact Goes.cons (next_inv hu.1 h2) (Goes.back hs h1)
theorem Dist.back {f : Rows} {s t : Sd} (hs : isStand f s) {n : Nat} (h : Dist f s t n) : Dist f t s n := ⟨h.1.back hs, fun k hk => h.2 k (hk.back (goes_stand hs h.1))⟩
/-! ### the first of the shortest rows -/
/-- c is a good letter at s on the way to o: it leads to t, one nearer -/
def Good (f : Rows) (o s : Sd) (c : Nat) (t : Sd) : Prop := next f s c = some t ∧ ∃ n, Dist f o t n ∧ Dist f o s (n + 1)
inductive Way (f : Rows) (o : Sd) : Sd → List Nat → Prop
  | nil : Way f o o []
  | cons {s t : Sd} {a : List Nat} {c : Nat} {b cs : List Nat} : s ≠ o → [101, 110, 115, 119] = a ++ c :: b → (∀ d ∈ a, ∀ u, ¬ Good f o s d u) → Good f o s c t → Way f o t cs → Way f o s (c :: cs)
theorem good_ex {f : Rows} {o s : Sd} (ho : isStand f o) {n : Nat} (h : Dist f o s (n + 1)) : ∃ c t, c ∈ ([101, 110, 115, 119] : List Nat) ∧ Good f o s c t := by
  obtain ⟨u, c, h1, h2⟩ := h.pred
  have hu := goes_stand ho h1.1
  have e := next_inv hu.1 h2
  exact ⟨inv c, u, next_letter e, e, n, h1, h⟩
theorem first_good {P : Nat → Prop} : ∀ {l : List Nat}, (∃ c ∈ l, P c) → ∃ a c b, l = a ++ c :: b ∧ (∀ d ∈ a, ¬ P d) ∧ P c
  | [], h => by
    obtain ⟨c, hc, _⟩ := h
    cases hc
  | x :: l, h => by
    by_cases hx : P x
    · exact ⟨[], x, l, rfl, ⟨fun d hd => (nomatch hd), hx⟩⟩
    · obtain ⟨c, hc, hp⟩ := h
      rcases List.mem_cons.mp hc with rfl | hc
      · exact absurd hp hx
      · obtain ⟨a, d, b, e1, e2, e3⟩ := first_good ⟨c, hc, hp⟩
        refine ⟨x :: a, d, b, by rw [e1]; rfl, fun y hy => ?_, e3⟩
        rcases List.mem_cons.mp hy with rfl | hy
        · exact hx
        · exact e2 y hy
theorem way_ex {f : Rows} {o : Sd} (ho : isStand f o) : ∀ {n : Nat} {s : Sd}, Dist f o s n → ∃ cs, Way f o s cs ∧ cs.length = n
  | 0, s, h => by
    rw [h.1.zero]
    exact ⟨[], .nil, rfl⟩
  | n + 1, s, h => by
    obtain ⟨c0, t0, hc0, hg0⟩ := good_ex ho h
    obtain ⟨a, c, b, e1, e2, t, hg⟩ := first_good (P := fun c => ∃ t, Good f o s c t) ⟨c0, hc0, t0, hg0⟩
    obtain ⟨hn, k, h1, h2⟩ := id hg
    have hk : k = n := by have := h2.uniq h; omega
    subst hk
    obtain ⟨cs, hw, hl⟩ := way_ex ho h1
    refine ⟨c :: cs, .cons (fun z => ?_) e1 (fun d hd u hu => e2 d hd ⟨u, hu⟩) hg hw, by rw [List.length_cons, hl]⟩
    subst z
    have := h.uniq (Dist.self f s)
    omega
theorem Way.len {f : Rows} {o : Sd} : ∀ {s : Sd} {cs : List Nat}, Way f o s cs → ∀ {n : Nat}, Dist f o s n → cs.length = n
  | _, _, .nil, n, h => (h.uniq (Dist.self f o)).symm
  | _, _, .cons _ _ _ ⟨hn, k, h1, h2⟩ w, n, h => by
    rw [List.length_cons, w.len h1]
    exact h2.uniq h
theorem Way.walk {f : Rows} {o : Sd} : ∀ {s : Sd} {cs : List Nat}, Way f o s cs → Sta.walk f s cs = some o
  | _, _, .nil => rfl
  | s, c :: cs, .cons _ _ _ ⟨hn, _⟩ w => by
    show ((next f s c).bind fun t => Sta.walk f t cs) = some o
    rw [hn]
    exact w.walk
/-- nearer is nearer by one -/
theorem near_one {f : Rows} {o s t : Sd} (ho : isStand f o) {c n k : Nat} (hs : isStand f s) (hn : next f s c = some t) (h1 : Dist f o t k) (h2 : Dist f o s n) : k < n ↔ k + 1 = n := by
  have hb := next_inv hs.1 hn
  have := h2.2 _ (h1.1.snoc hb)
  omega
end Bfs

/-! Lay9: a comprehension over a text; a written dict with texts as keys. -/
namespace Lay
open PySem L2
theorem lc_txt {z : Str} {g : TG} {tt : TT} {te : TE} {vs : List Nat} {σ : L2.St} {H1 : Hp} {D : Addr} {Qd : Hp → Prop} (Pv : Nat → Hp → Prop) (h0 : Pv 0 (upd H1 D (.lst [])))
    (hs : ∀ i c H, z.cps[i]? = some c → Pv i H → g (.str ⟨#[c]⟩) (wipe σ vs) H fun σ2 H2 => wipe σ2 vs = wipe σ vs ∧ tt σ2 H2 fun b H3 =>
      if b = true then te σ2 H3 fun y H4 => ∃ acc, H4 D = some (.lst acc) ∧ acc.length < sizeLine ∧ Pv (i + 1) (upd H4 D (.lst (acc ++ [y]))) else Pv (i + 1) H3) (hd : ∀ H, Pv z.cps.size H → Qd H) :
    ∃ W : Nat → Nat → Hp → Prop, (∃ m, W 0 m (upd H1 D (.lst []))) ∧ ∀ i m H, W i m H →
      ((Its z).stop i H ∧ Qd H) ∨ ((Its z).go i H ∧ ∃ Nx : Hp → Prop, (∀ H', Nx H' → ∃ m', m' < m ∧ W (i + 1) m' H') ∧ ∀ x H', (Its z).yld i H x H' → g x (wipe σ vs) H' fun σ2 H2 => wipe σ2 vs = wipe σ vs ∧ tt σ2 H2 fun b H3 =>
        if b = true then te σ2 H3 fun y H4 => ∃ acc, H4 D = some (.lst acc) ∧ acc.length < sizeLine ∧ Nx (upd H4 D (.lst (acc ++ [y]))) else Nx H3) := by
  refine ⟨fun i m H => m = z.cps.size - i ∧ i ≤ z.cps.size ∧ Pv i H, ⟨z.cps.size, by simp, Nat.zero_le _, h0⟩, ?_⟩
  rintro i m H ⟨rfl, hi, p⟩
  by_cases hlt : i < z.cps.size
  · refine .inr ⟨hlt, Pv (i + 1), fun H' p' => ⟨z.cps.size - (i + 1), by omega, rfl, hlt, p'⟩, fun x H' y => ?_⟩
    obtain ⟨rfl, c, hc, rfl⟩ := y
    exact hs i c _ hc p
  · have e : i = z.cps.size := by omega
    subst e
    exact .inl ⟨Nat.le_refl _, hd H p⟩
section
variable {M : Md} {X : Cx} {N : List Str} {sc scope : Scope} {k j : Nat} {σ : L2.St} {F H : Hp} {env : List (Option PyData)} {elt iter : Expr} {pos tp : Pos} {x : Str}
/-- the words of a comprehension's test -/
def TTok (X : Cx) (scope : Scope) (ifs : List Expr) (tt : TT) : Prop := (ifs = [] ∧ tt = tYes) ∨ ∃ c, ifs = [c] ∧ tt = BT X scope c
theorem TTok.pts {ifs : List Expr} {tt : TT} (h : TTok X scope ifs tt) (s : Shared) (H : Hp) (C : Addr) (cl : List (Str × Addr)) (fp : List Addr) : PTs (X.blk s H scope (compEnvC scope cl C X.env) fp) ifs tt := by
  rcases h with ⟨rfl, rfl⟩ | ⟨c, rfl, rfl⟩
  · exact pts_nil
  · exact pts_one (BT.pt s H C cl fp)
theorem lc_target (o : Ok M X N sc k) (hx : N[j]? = some x) (hxl : (relS scope sc).names.lookup x = some .local) (s : Shared) (H : Hp) (C : Addr) (cl : List (Str × Addr)) (fp : List Addr) : PG (X.blk s H scope (compEnvC scope cl C X.env) fp) (.Name x tp) (gName j) := by
  have e : (compEnvC scope cl C X.env).scope.names.lookup x = some .local := by
    have : (compEnvC scope cl C X.env).scope = relS scope sc := by
      rw [← o.eS]
      rfl
    rw [this]
    exact hxl
  exact pg_name (by show X.N.Nodup; rw [o.eN]; exact o.nd) (by show X.N[j]? = some x; rw [o.eN]; exact hx) (.inl e) (.inr e)
/-- the reading of [elt for x in a text if ..] -/
theorem lcS_tree {ifs : List Expr} {tt : TT} (o : Ok M X N sc k) (own : List (Str × Nat)) (j : Nat) (z : Str) (p : Nat → Bool) (g : Nat → PyData) (htt : TTok X scope ifs tt)
    (hi : XD M X iter σ F H (.str z)) (hj : j ∈ own.map (·.2)) (hz : z.cps.size < 100000)
    (ht : ∀ c : Nat, c ∈ z.cps.toList → ∀ F1 H1, Grow F H F1 H1 → Blk M X N sc scope k ifs elt ((wipe σ (own.map (·.2))).set j (some (.str ⟨#[c]⟩))) F1 H1 (p c) (g c)) (hp : ifs = [] → ∀ z, p z = true)
    (F1 H1 : Hp) (gr : Grow F H F1 H1) (Q : VK) (q : ∀ l vs F' H', Grow F1 H1 F' H' → F' l = none → H1 l = none → H' l = some (.lst vs) → Dns M.K F' vs (kept z.cps.toList p g) → Q (.ref l) H') : tLc (iStr (WE X iter)) (gName j) tt (BE X scope elt) (own.map (·.2)) σ H1 Q := by
  show iStr (WE X iter) σ H1 _
  refine hi.run F1 H1 gr _ fun y F2 H2 g2 r2 => ?_
  cases r2
  refine ⟨z, rfl, fun D hD => ?_⟩
  refine lc_txt (z := z) (fun i H' => LcP M.K F2 H2 D (kept (z.cps.toList.take i) p g) H') ?_ (fun i c H' hi' P => ?_) (fun H' P => ?_)
  · exact ⟨F2, [], Grow.own g2.le hD, g2.le.free hD, hD, upd_same, .nil⟩
  · have e2 : z.cps.toList[i]? = some c := by simpa using hi'
    have T := lc_turn (F := F2) (H := H2) (σ := σ) (b := p c) (e := g c) (v := .str ⟨#[c]⟩) (H' := H') (D := D) (ix := i) (d := .str ⟨#[c]⟩) o htt hj P (Nat.lt_of_le_of_lt (kept_len _ _ _) (by rw [List.length_take, Array.length_toList]; omega)) (fun _ => .str _)
      (fun F3 H3 g3 => ht c (List.mem_of_getElem? e2) F3 H3 ((gr.trans g2).trans g3)) (fun h => hp h c) g2.le
    rw [← kept_snoc, ← take_snoc e2] at T
    exact T
  · rw [← Array.length_toList, List.take_length] at P
    obtain ⟨F', us, g', h1, h2, h3, r⟩ := P
    exact q D us F' H' (g2.trans g') h1 (g2.kp.free h2) h3 r
theorem tt_of {ifs : List Expr} (h : ifs = [] ∨ ∃ c, ifs = [c]) : ∃ tt, TTok X scope ifs tt := by
  rcases h with h | ⟨c, h⟩
  · exact ⟨_, .inl ⟨h, rfl⟩⟩
  · exact ⟨_, .inr ⟨c, h, rfl⟩⟩
/-- [elt for x in a text if ..] -/
theorem o_lcS {ifs : List Expr} (o : Ok M X N sc k) (own : List (Str × Nat)) (j : Nat) (z : Str) (p : Nat → Bool) (g : Nat → PyData) (le : Same F H)
    (hi : XD M X iter σ F H (.str z)) (ok : blkC N sc scope own = true) (hj : j ∈ own.map (·.2)) (hx : N[j]? = some x) (hxl : (relS scope sc).names.lookup x = some .local)
    (hif : ifs = [] ∨ ∃ c, ifs = [c]) (hz : z.cps.size < 100000)
    (ht : ∀ c : Nat, c ∈ z.cps.toList → ∀ F1 H1, Grow F H F1 H1 → Blk M X N sc scope k ifs elt ((wipe σ (own.map (·.2))).set j (some (.str ⟨#[c]⟩))) F1 H1 (p c) (g c)) (hp : ifs = [] → ∀ z, p z = true)
    (hs : ∀ x, foldedSetIterable iter X.env x = pure x := by intro _; rfl) : XO M X (.ListComp elt [⟨.Name x tp, iter, ifs, 0⟩] scope pos) σ F H (kept z.cps.toList p g) := by
  obtain ⟨tt, htt⟩ := tt_of (X := X) (scope := scope) hif
  have okB : BlkOk X.N X.env.scope scope own := by
    rw [o.eN, o.eS]
    exact blkOk_by ok
  exact ⟨fun F1 H1 gr Q q => WE.of (pe_lc o.calm (by rw [o.eN]; exact o.nd) (pi_str WE.pe) okB (lc_target o hx hxl) htt.pts BE.pe hs) (lcS_tree o own j z p g htt hi hj hz ht hp F1 H1 gr Q q)⟩
/-- name = [elt for x in a text if ..] -/
theorem t_setLcS {ifs : List Expr} {y : Str} {i : Nat} {py spos : Pos} {D : Ends} (o : Ok M X N sc k) (S : Stt M.K F H σ env) (own : List (Str × Nat)) (j : Nat) (z : Str) (p : Nat → Bool) (g : Nat → PyData) (hN : At N i y) (hyl : sc.names.lookup y = some .local)
    (hi : XD M X iter σ F H (.str z)) (ok : blkC N sc scope own = true) (hj : j ∈ own.map (·.2)) (hx : N[j]? = some x) (hxl : (relS scope sc).names.lookup x = some .local)
    (hif : ifs = [] ∨ ∃ c, ifs = [c]) (hz : z.cps.size < 100000)
    (ht : ∀ c : Nat, c ∈ z.cps.toList → ∀ F1 H1, Grow F H F1 H1 → Blk M X N sc scope k ifs elt ((wipe σ (own.map (·.2))).set j (some (.str ⟨#[c]⟩))) F1 H1 (p c) (g c)) (hp : ifs = [] → ∀ z, p z = true)
    (kk : ∀ v F' H', Grow F H F' H' → Stt M.K F' H' (σ.set i (some v)) (env.set i (some (.list (kept z.cps.toList p g)))) → D.nx (σ.set i (some v)) H') (hk : sc.kind = .function) (hl : (py.line == pos.line) = true) (ha : (scope.names.any fun (n, k) => n == y && (k == .local || k == .cell)) = false)
    (hs : ∀ x, foldedSetIterable iter X.env x = pure x := by intro _; rfl) : W1 X (.Assign [.Name y py] (.ListComp elt [⟨.Name x tp, iter, ifs, 0⟩] scope pos) spos) D σ H := by
  obtain ⟨tt, htt⟩ := tt_of (X := X) (scope := scope) hif
  have okB : BlkOk X.N X.env.scope scope own := by
    rw [o.eN, o.eS]
    exact blkOk_by ok
  refine W1.of (ps_setLc o.calm (by rw [o.eN]; exact o.nd) (by rw [o.eN]; exact hN.get) (by rw [o.eS]; exact hyl) (sw_true (by rw [o.eS]; exact hk) (by rw [o.eS]; exact hyl) hl ha) (pi_str WE.pe) okB (lc_target o hx hxl) htt.pts BE.pe hs) ?_
  refine lcS_tree o own j z p g htt hi hj hz ht hp F H (Grow.refl S.le) _ fun l vs F' H' g h1 h2 h3 r => ?_
  have G := g.fix (o := .lst vs) h1 h2 h3
  exact kk _ _ H' G ((S.grow G).set (.lst upd_same (r.mono (same_under h1))))
end
end Lay

/-! Lay10: dicts whose keys are tuples: looked up, written, walked. -/
namespace Lay
open PySem PySem.Spec PyProof.Rows L2
/-- the value at a key -/
def lookD (m : List (PyData × PyData)) (d : PyData) : Option PyData := (m.find? fun q => decide (keyOf q.1 = keyOf d)).map (·.2)
def putD (m : List (PyData × PyData)) (d e : PyData) : List (PyData × PyData) := if (lookD m d).isSome = true then m.map fun q => if keyOf q.1 = keyOf d then (q.1, e) else q else m ++ [(d, e)]
theorem ens_look {K : PySem.W.Frag} {F : Hp} (d : PyData) : ∀ {xs : List KX} {m : List (PyData × PyData)}, Ens K F xs m → (lookD m d = none ∧ atKey xs (keyOf d) = none) ∨ ∃ e a u v, lookD m d = some e ∧ atKey xs (keyOf d) = some (a, u) ∧ RelV v u ∧ Dn K F v e
  | _, _, .nil => .inl ⟨rfl, rfl⟩
  | x :: xs, p :: m, .cons (v := v) h1 h2 h3 h4 h5 h6 t => by
    by_cases e : keyOf p.1 = keyOf d
    · refine .inr ⟨p.2, x.2.1, x.2.2, v, ?_, ?_, h5, h6⟩
      · unfold lookD
        rw [List.find?_cons, decide_eq_true e]
        rfl
      · unfold atKey
        rw [List.find?_cons, decide_eq_true (by rw [h1]; exact e)]
        rfl
    · have e1 : lookD (p :: m) d = lookD m d := by
        unfold lookD
        rw [List.find?_cons, decide_eq_false e]
      have e2 : atKey (x :: xs) (keyOf d) = atKey xs (keyOf d) := by
        unfold atKey
        rw [List.find?_cons, decide_eq_false (by rw [h1]; exact e)]
      rw [e1, e2]
      exact ens_look d t
theorem ens_keys {K : PySem.W.Frag} {F : Hp} : ∀ {xs : List KX} {m : List (PyData × PyData)}, Ens K F xs m → xs.map (·.1) = m.map fun p => keyOf p.1
  | _, _, .nil => rfl
  | _, _, .cons h1 _ _ _ _ _ t => by
    rw [List.map_cons, List.map_cons, h1, ens_keys t]
theorem ens_snoc {K : PySem.W.Frag} {F : Hp} {x : KX} {p : PyData × PyData} {v : V} (h1 : x.1 = keyOf p.1) (h2 : keyB p.1 = true) (h3 : (keyOf p.1).depth ≤ 8) (h4 : Dn K F (.ref x.2.1) p.1) (h5 : RelV v x.2.2) (h6 : Dn K F v p.2) : ∀ {xs : List KX} {m : List (PyData × PyData)}, Ens K F xs m → Ens K F (xs ++ [x]) (m ++ [p])
  | _, _, .nil => .cons h1 h2 h3 h4 h5 h6 .nil
  | _, _, .cons a1 a2 a3 a4 a5 a6 t => .cons a1 a2 a3 a4 a5 a6 (ens_snoc h1 h2 h3 h4 h5 h6 t)
theorem ens_put {K : PySem.W.Frag} {F : Hp} {d e : PyData} {u : Value} {v : V} (h5 : RelV v u) (h6 : Dn K F v e) : ∀ {xs : List KX} {m : List (PyData × PyData)}, Ens K F xs m → Ens K F (xs.map (putAt (keyOf d) u)) (m.map fun q => if keyOf q.1 = keyOf d then (q.1, e) else q)
  | _, _, .nil => .nil
  | x :: xs, p :: m, .cons a1 a2 a3 a4 a5 a6 t => by
    rw [List.map_cons, List.map_cons]
    by_cases q : keyOf p.1 = keyOf d
    · rw [if_pos q]
      unfold putAt
      rw [if_pos (by rw [a1]; exact q)]
      exact .cons a1 a2 a3 a4 h5 h6 (ens_put h5 h6 t)
    · rw [if_neg q]
      unfold putAt
      rw [if_neg (by rw [a1]; exact q)]
      exact .cons a1 a2 a3 a4 a5 a6 (ens_put h5 h6 t)
theorem ens_get {K : PySem.W.Frag} {F : Hp} : ∀ {xs : List KX} {m : List (PyData × PyData)} {i : Nat} {x : KX}, Ens K F xs m → xs[i]? = some x → ∃ p, m[i]? = some p ∧ Dn K F (.ref x.2.1) p.1
  | _, _, _, _, .nil, h => by simp at h
  | _ :: _, _ :: _, 0, x, .cons _ _ _ a4 _ _ _, h => by
    simp at h
    subst h
    exact ⟨_, rfl, a4⟩
  | _ :: _, _ :: _, i + 1, x, .cons _ _ _ _ _ _ t, h => by
    obtain ⟨p, e1, e2⟩ := ens_get (i := i) t (by simpa using h)
    exact ⟨p, by simpa using e1, e2⟩
/-- a key -/
def keyD (d : PyData) : Prop := keyB d = true ∧ (keyOf d).depth ≤ 8 ∧ ∃ ds, d = .tuple ds
section
variable {X : Cx} {pins : List (Addr × Obj)} {σ : L2.St} {H F : Hp} {s : Shared} {a : Addr} {m : List (PyData × PyData)}
theorem ens_is (I : Inv X pins σ H s) (le : Same F H) : ∀ {xs : List KX} {m : List (PyData × PyData)}, Ens X.K F xs m → ∀ x ∈ xs, (nestedKind X.prog X.w).is s.heap x.1 x.2.1
  | _, _, .nil, x, hx => by cases hx
  | y :: xs, p :: m, .cons h1 h2 h3 h4 _ _ t, x, hx => by
    rcases List.mem_cons.mp hx with rfl | hx
    · exact ⟨by rw [h1]; exact key_is I le h2 h4 rfl, by rw [h1]; exact h3⟩
    · exact ens_is I le t x hx
theorem dk_at (I : Inv X pins σ H s) (le : Same F H) (d : Dk X.K X.w F H a m) : ∃ o xs, H a = some (obO a o) ∧ s.heap.get? a = some o ∧ DObj X.w o xs ∧ Ens X.K F xs m ∧ s.heap.DictOfH (nestedKind X.prog X.w) a xs := by
  obtain ⟨o, xs, h1, h2, h3⟩ := d.ex
  have e := ob_at I h1
  obtain ⟨hx, ⟨es, ep, hd, he⟩, hn⟩ := id h2
  exact ⟨o, xs, h1, e, h2, h3, o, es, ep, e, hx, hd, he, ens_is I le h3, hn⟩
theorem room_in1 {k : Nat} {A : Around} {P : Program} {w : World} (r : Room k A) : (nestedKind P w).room A.in1 := by
  have := r.un
  show A.units + 1 + 8 < cLine
  omega
theorem key_at (I : Inv X pins σ H s) (le : Same F H) {d : PyData} {v : V} {u : Value} (hk : keyD d) (hd : Dn X.K F v d) (r : RelV v u) : ∃ b, u = .ref b ∧ v = .ref b ∧ (nestedKind X.prog X.w).is s.heap (keyOf d) b := by
  obtain ⟨h1, h2, ds, rfl⟩ := hk
  have hh := hd
  cases hd with
  | tup h t =>
    cases r
    exact ⟨_, rfl, rfl, key_is I le h1 hh rfl, h2⟩
/-! ### in, not in, items -/
def rNinK (K : PySem.W.Frag) (w : World) : R2 := fun x y H Q => ∃ (F : Hp) (d : PyData) (m : List (PyData × PyData)) (a : Addr), y = .ref a ∧ Same F H ∧ Dn K F x d ∧ keyD d ∧ Dk K w F H a m ∧ Q (.bl (!(lookD m d).isSome)) H
theorem op_ninK {k : Nat} (hr : Room k X.A) : OpR X (compareOp .NotIn) (rNinK X.K X.w) := by
  intro pins s σ H x y v u Q I rx ry h
  obtain ⟨F, d, m, a, rfl, le, hd, hk, dk, q⟩ := h
  cases ry
  obtain ⟨b, rfl, rfl, hi⟩ := key_at I le hk hd rx
  obtain ⟨o, xs, h1, h2, h3, h4, h5⟩ := dk_at I le dk
  refine notIn_keyed (room_in1 hr) hi dk.low ⟨xs, h5, rfl⟩ ?_
  rw [valueAt_pairsH, Option.isSome_map]
  rcases ens_look d h4 with ⟨e1, e2⟩ | ⟨e, a', u', v', e1, e2, _⟩
  · rw [e1] at q
    rw [e2]
    exact ⟨.bl true, H, I.tok _, rfl, q⟩
  · rw [e1] at q
    rw [e2]
    exact ⟨.bl false, H, I.tok _, rfl, q⟩
def rIxK (K : PySem.W.Frag) (w : World) : R2 := fun x y H Q => ∃ (F : Hp) (d e : PyData) (m : List (PyData × PyData)) (a : Addr), x = .ref a ∧ Same F H ∧ Dn K F y d ∧ keyD d ∧ Dk K w F H a m ∧ lookD m d = some e ∧ ∀ v, Dn K F v e → Q v H
theorem ix_K {k : Nat} (hr : Room k X.A) : IxR X (rIxK X.K X.w) := by
  intro value slice pins s σ H x y v u Q I rx ry h hs
  obtain ⟨F, d, e, m, a, rfl, le, hd, hk, dk, hl, q⟩ := h
  obtain rfl : v = Value.ref a := rx
  obtain ⟨b, rfl, rfl, hi⟩ := key_at I le hk hd ry
  obtain ⟨o, xs, h1, h2, h3, h4, h5⟩ := dk_at I le dk
  rcases ens_look d h4 with ⟨e1, e2⟩ | ⟨e', a', u', v', e1, e2, e3, e4⟩
  · rw [e1] at hl
    cases hl
  · rw [e1] at hl
    cases hl
    refine tail_any h5.typeIs PySem.F.slot_dict_getitem.lookup (getItem_keyed (room_in1 hr) hi ⟨xs, h5, rfl⟩ (v := u') ?_ ⟨v', H, I.tok _, e3, q v' e4⟩) hs
    rw [valueAt_pairsH, e2]
    rfl
/-! ### written -/
theorem dobj_of {o : Obj} {xs : List KX} {h : Heap} (hm : h.DictOfH (nestedKind X.prog X.w) a xs) (e : h.get? a = some o) : DObj X.w o xs := by
  obtain ⟨o', es, ep, ho, hx, hd, he, _, hn⟩ := hm
  rw [e] at ho
  cases ho
  exact ⟨hx, ⟨es, ep, hd, he⟩, hn⟩
theorem dk_put (I : Inv X pins σ H s) (le : Same F H) {k : Nat} (hr : Room k X.A) (dk : Dk X.K X.w F H a m) {d e : PyData} {v y : V} {u r : Value} (hd : Dn X.K F v d) (hk : keyD d) (rv : RelV v u) (he : Dn X.K F y e) (ry : RelV y r) (hz : m.length ≤ 100000) {Q : Unit → Shared → Prop}
    (q : ∀ o s', Dk X.K X.w F (upd H a (obO a o)) a (putD m d e) → Inv X pins σ (upd H a (obO a o)) s' → Q () s') : wpAny (model X.prog X.w) X.A (setItem (.ref a) u r) Q X.xe s := by
  obtain ⟨b, rfl, rfl, hi⟩ := key_at I le hk hd rv
  obtain ⟨o, xs, h1, h2, h3, h4, h5⟩ := dk_at I le dk
  refine wpAny_setItem_heap (hsz := by rw [h4.len]; exact Nat.le_trans hz (by decide)) (room_in1 hr) hi h5 fun h' dd' hs => ?_
  have dd := dd'
  obtain ⟨o', es, ep, ho, hx, hdt, hes, _, hn⟩ := dd'
  have en : Ens X.K F (storedH xs (keyOf d) b r) (putD m d e) := by
    unfold putD
    rcases ens_look d h4 with ⟨e1, e2⟩ | ⟨e', a', u', v', e1, e2, _⟩
    · rw [storedH_new e2, e1]
      exact ens_snoc rfl hk.1 hk.2.1 hd ry he h4
    · rw [storedH_old e2, e1]
      exact ens_put ry he h4
  refine q o' _ ⟨⟨o', _, upd_same, ⟨hx, ⟨es, ep, hdt, hes⟩, hn⟩, en⟩, dk.low⟩ ?_
  exact d_write I (by rw [h1]; exact True.intro) hs ⟨o', ho⟩ (ob_ok ho)
/-! ### walked -/
/-- the keys of the dict at a, in their order -/
def Itx (a : Addr) (o : Obj) (xs : List KX) : It := ⟨fun i H => H a = some (obO a o) ∧ i < xs.length, fun i H x H' => H' = H ∧ ∃ e, xs[i]? = some e ∧ x = .ref e.2.1, fun i H => H a = some (obO a o) ∧ xs.length ≤ i⟩
theorem turn_x {P : Program} {w : World} {K : PySem.W.Frag} {tg : Expr} {o : Obj} {xs : List KX} {es : Array DictEntry} {ep : Nat} (it : Addr) (hod : o.data = .dict es ep) (he : es.toList = xs.map fun x => (⟨x.1.hash w, .ref x.2.1, x.2.2⟩ : DictEntry)) :
    Turn P w K tg (Itx a o xs) [it] it (fun i h => h.IsKeyIter it a i xs.length ep) where
  mem := List.mem_singleton.mpr rfl
  obj := fun i h st c hc => by
    obtain rfl : c = it := List.mem_singleton.mp hc
    obtain ⟨q, e1, e2, e3⟩ := st
    exact ⟨q, e1, fun v z => by rw [e3] at z; cases z⟩
  keep := fun i h h' st kk => st.at fun q e => kk it (List.mem_singleton.mpr rfl) q e
  item := by
    intro Y hP hw hK hcalm i pins s σ H E I hf st hg
    subst hP hw hK
    obtain ⟨ha, hi⟩ := hg
    obtain ⟨f0, f1, f2, f3, f4, f5⟩ := hf it (List.mem_singleton.mpr rfl)
    have hat := ob_at I ha
    have hsz : es.size = xs.length := by rw [← Array.length_toList, he, List.length_map]
    have hx : xs[i]? = some xs[i] := List.getElem?_eq_getElem hi
    have hen : es[i]? = some (⟨xs[i].1.hash Y.w, .ref xs[i].2.1, xs[i].2.2⟩ : DictEntry) := by
      rw [← Array.getElem?_toList, he, List.getElem?_map, hx]
      rfl
    refine next_key_item st hat hod hsz hen fun h2 st2 sb => ?_
    have I2 : Inv Y pins σ H { s with heap := h2 } := I.turned (t' := s.toks) (fun c q hc e => (sb.2 c hc).trans e) f0 f1 f3 f4 f5
    obtain ⟨q, e1, e2, e3⟩ := id st2
    exact ⟨_, rfl, go_of (s := { s with heap := h2 }) e1 e2 e3 (by decide) ⟨.ref xs[i].2.1, H, I2, rfl, ⟨rfl, _, hx, rfl⟩, st2, fun c hc => (hf c hc).1⟩⟩
  done := by
    intro Y hP hw hK hcalm i pins s σ H E I hf st hg
    subst hP hw hK
    obtain ⟨ha, hi⟩ := hg
    obtain ⟨f0, f1, f2, f3, f4, f5⟩ := hf it (List.mem_singleton.mpr rfl)
    have hat := ob_at I ha
    have hsz : es.size = xs.length := by rw [← Array.length_toList, he, List.length_map]
    exact next_key_end (I.ok.hd hcalm) st hat hod hsz hi fun h2 eb => ⟨rfl, I.turned (t' := s.toks) (fun c q hc e => eb c q hc e) f0 f1 f3 f4 f5⟩
  self := fun A i s Q E st h => wpAny_pyIter_keyiter st h
def iDk (w : World) (te : TE) : TI := fun σ H R => te σ H fun v H1 => ∃ a o xs, v = .ref a ∧ H1 a = some (obO a o) ∧ DObj w o xs ∧ (a == sysModules) = false ∧ R (Itx a o xs) H1
theorem pi_dk {tg e : Expr} {te : TE} (he : PE X e te) : PI X tg e (iDk X.w te) := by
  refine ⟨fun pins s σ H R I h => ?_⟩
  refine thn (he.run pins s σ H _ I h) fun u s1 ⟨x, H1, I1, rx, a, o, xs, ex, ha, hd, hs, q⟩ => ?_
  subst ex
  obtain rfl : u = Value.ref a := rx
  obtain ⟨hx, ⟨es, ep, hod, hes⟩, _⟩ := hd
  have hsz : es.size = xs.length := by rw [← Array.length_toList, hes, List.length_map]
  refine iter_keys hs (ob_at I1 ha) hx hod (pi_one (tk := s1.toks) I1 _ (turn_x _ hod hes) ⟨_, Heap.get?_push_size _ rfl, rfl, ?_⟩ q)
  rw [hsz]
  rfl
/-! ### list(d) -/
theorem call_list_x (hc : X.calm = true) : CallR X (.type "list") (fun vs H Q => ∃ a o xs, vs = [V.ref a] ∧ H a = some (obO a o) ∧ DObj X.w o xs ∧ (a == sysModules) = false ∧ xs.length ≤ 100000 ∧ ∀ p, H p = none → Q (.ref p) (upd H p (.lst (xs.map fun x => V.ref x.2.1)))) := by
  intro pins s σ H vs us Q I r h
  obtain ⟨a, o, xs, rfl, ha, ⟨hx, ⟨es, ep, hod, hes⟩, _⟩, hs, hz, q⟩ := h
  obtain ⟨u, rfl, rx⟩ := r.one
  cases rx
  have l1 : es.size = xs.length := by rw [← Array.length_toList, hes, List.length_map]
  have hz' : xs.length ≤ sizeLine := Nat.le_trans hz (by decide)
  refine PySem.W.kdl_call (kdl_raw hs hx hod) (I.ok.hd hc) (ob_at I ha) (by omega) fun h2 tk acc c kp e it => ?_
  have ea : acc.toList = xs.map fun x => Value.ref x.2.1 := by
    have hl : acc.toList.length = xs.length := by rw [Array.length_toList, it.1]; exact l1
    refine List.ext_getElem? fun j => ?_
    rw [List.getElem?_map]
    by_cases hj : j < xs.length
    · have h1 : acc.toList[j]? = some acc.toList[j] := List.getElem?_eq_getElem (by omega)
      obtain ⟨en, hen, hv⟩ := it.2 j acc.toList[j] (by rw [← Array.getElem?_toList]; exact h1)
      rw [← Array.getElem?_toList, hes, List.getElem?_map, List.getElem?_eq_getElem hj] at hen
      rw [h1, List.getElem?_eq_getElem hj, hv, ← Option.some.inj hen]
      rfl
    · rw [List.getElem?_eq_none (by omega), List.getElem?_eq_none (by omega)]
      rfl
  have eb : acc.toList = (xs.map fun x => x.2.1).map Value.ref := by rw [ea, List.map_map]; rfl
  have ec : (xs.map fun x => V.ref x.2.1) = (xs.map fun x => x.2.1).map V.ref := by rw [List.map_map]; rfl
  have rv : Vals (xs.map fun x => V.ref x.2.1) acc.toList := by rw [eb, ec]; exact vals_refs _
  refine ⟨.ref s.heap.objs.size, _, I.laid (t' := tk) (o := .lst (xs.map fun x => V.ref x.2.1)) kp (Nat.le_refl _) ?_, rfl, q _ (I.hok.fresh (Nat.le_refl _))⟩
  exact ⟨by rw [List.length_map]; exact hz', acc.toList, c, rv, by rw [Array.toArray_toList]; exact e⟩
end
end Lay

/-! Lay11: own dicts in expressions and statements. -/
namespace Lay
open PySem L2
/-- one's own dict at a, made since F0, H0 -/
structure OwD (K : PySem.W.Frag) (w : World) (F0 H0 F H : Hp) (a : Addr) (m : List (PyData × PyData)) : Prop where
  g : Grow F0 H0 F H
  fF : F a = none
  fH : H0 a = none
  d : Dk K w F H a m
theorem OwD.grow {K : PySem.W.Frag} {w : World} {F0 H0 F H G J : Hp} {a : Addr} {m : List (PyData × PyData)} (o : OwD K w F0 H0 F H a m) (g : Grow F H G J) : OwD K w F0 H0 G J a m := by
  obtain ⟨u, hu⟩ := o.d.some
  exact ⟨o.g.trans g, g.new a o.fF (by rw [hu]; intro z; cases z), o.fH, o.d.grow g⟩
/-- one's own list is changed: the dict stays -/
theorem OwD.apart {K : PySem.W.Frag} {w : World} {F0 H0 F H : Hp} {a l : Addr} {us : List V} {ob : HO} {m : List (PyData × PyData)} (o : OwD K w F0 H0 F H a m) (hl : H l = some (.lst us)) (hF : F l = none) (hH : H0 l = none) : OwD K w F0 H0 F (upd H l ob) a m := by
  refine ⟨o.g.set hF hH, o.fF, o.fH, ?_, o.d.low⟩
  obtain ⟨q, xs, h1, h2, h3⟩ := o.d.ex
  refine ⟨q, xs, ?_, h2, h3⟩
  rw [upd_ne (fun z => by rw [z, hl] at h1; cases h1)]
  exact h1
/-- one's own dict is changed: a list stays -/
theorem Ow.apart {K : PySem.W.Frag} {w : World} {F0 H0 F H : Hp} {a l : Addr} {ob : HO} {ds : List PyData} {m : List (PyData × PyData)} (o : Ow K F0 H0 F H l ds) (d : Dk K w F H a m) (hF : F a = none) (hH : H0 a = none) : Ow K F0 H0 F (upd H a ob) l ds := by
  obtain ⟨us, h1, h2⟩ := o.at'
  obtain ⟨q, xs, e1, _⟩ := d.ex
  refine ⟨o.g.set hF hH, o.fF, o.fH, us, ?_, h2⟩
  rw [upd_ne (fun z => by rw [z, e1] at h1; cases h1)]
  exact h1
/-- e gives a new dict that P tells of -/
structure KD (M : Md) (X : Cx) (e : Expr) (σ : L2.St) (F H : Hp) (P : List (PyData × PyData) → Prop) : Prop where
  run : ∀ F1 H1, Grow F H F1 H1 → ∀ Q : VK, (∀ m a F' H', P m → Grow F1 H1 F' H' → F' a = none → H1 a = none → Dk M.K M.w F' H' a m → Q (.ref a) H') → WE X e σ H1 Q
/-- e gives some datum that P tells of -/
structure XS (M : Md) (X : Cx) (e : Expr) (σ : L2.St) (F H : Hp) (P : PyData → Prop) : Prop where
  run : ∀ F1 H1, Grow F H F1 H1 → ∀ Q : VK, (∀ d v F' H', P d → Grow F1 H1 F' H' → Dn M.K F' v d → Q v H') → WE X e σ H1 Q
section
variable {M : Md} {X : Cx} {N : List Str} {sc scope : Scope} {k j i : Nat} {σ : L2.St} {env : List (Option PyData)} {F0 H0 F H : Hp} {d e' : PyData} {ds : List PyData} {m : List (PyData × PyData)} {e a b iter elt : Expr} {es : List Expr} {D : Ends} {pos p np p2 tp : Pos} {x : Str} {l : Addr} {Q : VK} {E : XK} {P : List (PyData × PyData) → Prop} {R : List PyData → Out → Prop} {C : CXT} {α : Type}
theorem Stt.ownD (S : Stt M.K F H σ env) (hF : F l = none) {o : HO} : Stt M.K F (upd H l o) σ env := ⟨same_own S.le hF, S.sl, S.ln⟩
theorem k_call (o : Ok M X N sc k) (fc : Fc M C x j (spG M.K R)) (pz : Pz M C) (ha : XA M X (e :: es) σ F H ds) (r : R ds (.dct M.w P)) (hj : j ≤ k) (hg : sc.names.lookup x = some .globalImplicit)
    (hdb : (x == ("__debug__" : Str)) = false := by decide +kernel) (he : starEach (e :: es) X.env = (false, eval e X.env) :: starEach es X.env := by rfl) (hpl : (backTo pos (starEach es X.env)).any (·.1) = false := by rfl) :
    KD M X (.Call (.Name x p) (e :: es) [] pos) σ F H P := ⟨fun F1 H1 g Q q =>
  we_call o fc hj (pz X o.eP o.eW) (ha.run F1 H1 g _ fun vs F2 H2 g2 r2 => ⟨F2, ds, .dct M.w P, g2.le, r2, r, fun m p F' H' hm g' h1 h2 h3 => q m p F' H' hm (g2.trans g') h1 (g2.kp.free h2) h3⟩) hg hdb he hpl⟩
theorem t_setD (o : Ok M X N sc k) (fs : Fs X) (S : Stt M.K F H σ env) (hN : At N i x) (h : KD M X e σ F H P)
    (kk : ∀ m l F' H', P m → Grow F H F' H' → OwD M.K M.w F H F' H' l m → Stt M.K F' H' (σ.set i (some (.ref l))) (env.set i none) → D.nx (σ.set i (some (.ref l))) H')
    (hl : locB sc x = true) (hs : swapsWith e (some (.Name x p)) pos.line X.env = pure false := by rfl) : W1 X (.Assign [.Name x p] e pos) D σ H :=
  s_setW o.toOk0 fs i (h.run F H (Grow.refl S.le) _ fun m l F' H' hm g h1 h2 h3 => kk m l F' H' hm g ⟨g, h1, h2, h3⟩ (S.grow g).lose) hN.get hl hs
theorem b_ninD (o : Ok M X N sc k) (ha : XD M X a σ F H d) (hk : keyD d) (w : OwD M.K M.w F0 H0 F H l m) (hN : At N i x) (hv : σ[i]? = some (some (.ref l))) (hs : nameB sc x = true) (hm : behindInMarks .NotIn (.Name x np) = false := by rfl) : XB M X (.Compare a [.NotIn] [.Name x np] pos) σ F H (!(lookD m d).isSome) := by
  unfold nameB at hs
  simp only [Bool.and_eq_true, Bool.not_eq_true'] at hs
  refine ⟨fun F1 H1 g Q q => ?_⟩
  refine WT.of (pt_cmpR (op_ninK o.room) WE.pe WE.pe hm) ?_
  refine ha.run F1 H1 g _ fun v F2 H2 g2 r2 => ?_
  refine we_slot o.toOk0 i hv ?_ hN.get hs.1.1 hs.1.2 hs.2
  exact ⟨F2, d, m, l, rfl, g2.le, by rw [o.eK]; exact r2, hk, by rw [o.eK, o.eW]; exact (w.d.grow g).grow g2, _, rfl, q F2 H2 g2⟩
theorem x_ixD (o : Ok M X N sc k) (hb : XD M X b σ F H d) (hk : keyD d) (w : OwD M.K M.w F0 H0 F H l m) (hN : At N i x) (hv : σ[i]? = some (some (.ref l))) (hs : nameB sc x = true) (hd : lookD m d = some e') (hp : PlainIx b := by exact fun _ _ => rfl) : XD M X (.Subscript (.Name x np) b pos) σ F H e' := by
  unfold nameB at hs
  simp only [Bool.and_eq_true, Bool.not_eq_true'] at hs
  refine ⟨fun F1 H1 g Q q => ?_⟩
  refine WE.of (pe_ix (ix_K o.room) WE.pe WE.pe hp) ?_
  refine we_slot o.toOk0 i hv ?_ hN.get hs.1.1 hs.1.2 hs.2
  refine hb.run F1 H1 g _ fun v F2 H2 g2 r2 => ?_
  exact ⟨F2, d, e', m, l, rfl, g2.le, by rw [o.eK]; exact r2, hk, by rw [o.eK, o.eW]; exact (w.d.grow g).grow g2, hd, fun v r => q v F2 H2 g2 (by rw [o.eK] at r; exact r)⟩
/-- d[key] = value -/
theorem t_putD (o : Ok M X N sc k) (S : Stt M.K F H σ env) (w : OwD M.K M.w F0 H0 F H l m) (hN : At N i x) (hv : σ[i]? = some (some (.ref l))) (hs : nameB sc x = true) (hi : XD M X b σ F H d) (hk : keyD d) (he : XD M X e σ F H e') (hz : m.length ≤ 100000)
    (kk : ∀ q F' H', Grow F H F' H' → Dk M.K M.w F' H' l m → Stt M.K F' (upd H' l (obO l q)) σ env → OwD M.K M.w F0 H0 F' (upd H' l (obO l q)) l (putD m d e') → D.nx σ (upd H' l (obO l q)))
    (hsw : swapsWith e (some (.Subscript (.Name x np) b p)) pos.line X.env = pure false := by rfl) : W1 X (.Assign [.Subscript (.Name x np) b p] e pos) D σ H := by
  unfold nameB at hs
  simp only [Bool.and_eq_true, Bool.not_eq_true'] at hs
  refine ⟨fun pins s I => ?_⟩
  refine wpAny_Assign_Subscript ?_ hsw
  refine thn ((he.run F H (Grow.refl S.le) (fun y H1 => ∃ F1, Grow F H F1 H1 ∧ Dn M.K F1 y e') fun y F1 H1 g1 r1 => ⟨F1, g1, r1⟩).run pins s I) fun r s1 ⟨y, H1, I1, ry, F1, g1, r1⟩ => ?_
  refine thn ((we_slot (pos := np) (Q := fun v H2 => v = V.ref l ∧ H2 = H1) o.toOk0 i hv ⟨rfl, rfl⟩ hN.get hs.1.1 hs.1.2 hs.2).run pins s1 I1) fun u s2 ⟨vv, H2, I2, rv, ev, eh⟩ => ?_
  subst ev eh
  obtain rfl : u = Value.ref l := rv
  refine thn ((hi.run F1 _ g1 (fun z H3 => ∃ F3, Grow F1 H2 F3 H3 ∧ Dn M.K F3 z d) fun z F3 H3 g3 r3 => ⟨F3, g3, r3⟩).run pins s2 I2) fun iv s3 ⟨z, H3, I3, rz, F3, g3, r3⟩ => ?_
  have W := (w.grow g1).grow g3
  have dk : Dk X.K X.w F3 H3 l m := by rw [o.eK, o.eW]; exact W.d
  refine dk_put I3 g3.le o.room dk (by rw [o.eK]; exact r3) hk rz (by rw [o.eK]; exact r1.mono g3.ex) ry hz fun q s4 dk4 I4 => ?_
  rw [o.eK, o.eW] at dk4
  exact ⟨σ, _, I4, kk q F3 H3 (g1.trans g3) W.d (((S.grow g1).grow g3).ownD W.fF) ⟨W.g.set W.fF W.fH, W.fF, W.fH, dk4⟩⟩
/-- list(d) -/
theorem o_listD (o : Ok M X N sc k) (hm : M.mg "list" = none) (w : OwD M.K M.w F0 H0 F H l m) (hN : At N i x) (hv : σ[i]? = some (some (.ref l))) (hs : nameB sc x = true) (hz : m.length ≤ 100000) (hg : sc.names.lookup ("list" : Str) = some .globalImplicit)
    (he : starEach (.Name x np :: []) X.env = (false, eval (.Name x np) X.env) :: starEach [] X.env := by rfl) (hpl : (backTo pos (starEach [] X.env)).any (·.1) = false := by rfl) : XO M X (.Call (.Name "list" p) [.Name x np] [] pos) σ F H (m.map (·.1)) := by
  unfold nameB at hs
  simp only [Bool.and_eq_true, Bool.not_eq_true'] at hs
  refine ⟨fun F1 H1 g Q q => ?_⟩
  refine WE.of (pe_callTy (call_list_x o.calm) (gl_of o.toOk0 hg) (by rw [o.eG]; exact hm) PyProof.Rows.boot_list (pa_cons WE.pe pa_nil he) (by decide +kernel) (by decide +kernel) he hpl) ?_
  refine we_slot o.toOk0 i hv ?_ hN.get hs.1.1 hs.1.2 hs.2
  obtain ⟨ob, xs, h1, h2, h3⟩ := (w.d.grow g).ex
  refine ⟨l, ob, xs, rfl, h1, by rw [o.eW]; exact h2, w.d.low, by rw [h3.len]; exact hz, fun r hr => ?_⟩
  refine q r _ F1 _ (Grow.own g.le hr) (g.le.free hr) hr upd_same ?_
  clear h1 h2 q hv w hz
  induction h3 with
  | nil => exact .nil
  | cons _ _ _ a4 _ _ t ih => exact .cons a4 ih
/-! ### walked -/
theorem lc_x {a : Addr} {o : Obj} {xs : List KX} {g : TG} {tt : TT} {te : TE} {vs : List Nat} {H1 : Hp} {B : Addr} {Qd : Hp → Prop} (Pv : Nat → Hp → Prop) (h0 : Pv 0 (upd H1 B (.lst []))) (hl : ∀ i H, i ≤ xs.length → Pv i H → H a = some (obO a o))
    (hs : ∀ i z H, xs[i]? = some z → Pv i H → g (.ref z.2.1) (wipe σ vs) H fun σ2 H2 => wipe σ2 vs = wipe σ vs ∧ tt σ2 H2 fun b H3 =>
      if b = true then te σ2 H3 fun y H4 => ∃ acc, H4 B = some (.lst acc) ∧ acc.length < sizeLine ∧ Pv (i + 1) (upd H4 B (.lst (acc ++ [y]))) else Pv (i + 1) H3) (hd : ∀ H, Pv xs.length H → Qd H) :
    ∃ W : Nat → Nat → Hp → Prop, (∃ m, W 0 m (upd H1 B (.lst []))) ∧ ∀ i m H, W i m H →
      ((Itx a o xs).stop i H ∧ Qd H) ∨ ((Itx a o xs).go i H ∧ ∃ Nx : Hp → Prop, (∀ H', Nx H' → ∃ m', m' < m ∧ W (i + 1) m' H') ∧ ∀ x H', (Itx a o xs).yld i H x H' → g x (wipe σ vs) H' fun σ2 H2 => wipe σ2 vs = wipe σ vs ∧ tt σ2 H2 fun b H3 =>
        if b = true then te σ2 H3 fun y H4 => ∃ acc, H4 B = some (.lst acc) ∧ acc.length < sizeLine ∧ Nx (upd H4 B (.lst (acc ++ [y]))) else Nx H3) := by
  refine ⟨fun i m H => m = xs.length - i ∧ i ≤ xs.length ∧ Pv i H, ⟨xs.length, by simp, Nat.zero_le _, h0⟩, ?_⟩
  rintro i m H ⟨rfl, hi, pv⟩
  by_cases hlt : i < xs.length
  · refine .inr ⟨⟨hl i H hi pv, hlt⟩, Pv (i + 1), fun H' p' => ⟨xs.length - (i + 1), by omega, rfl, hlt, p'⟩, fun x H' y => ?_⟩
    obtain ⟨rfl, z, hz, rfl⟩ := y
    exact hs i z _ hz pv
  · have e : i = xs.length := by omega
    subst e
    exact .inl ⟨⟨hl _ H hi pv, Nat.le_refl _⟩, hd H pv⟩
theorem ens_at {K : PySem.W.Frag} {G : Hp} {xs : List KX} {m : List (PyData × PyData)} {enc : α → PyData} {zs : List α} (h : Ens K G xs m) (hm : m.map (·.1) = zs.map enc) {i : Nat} {z : KX} (hz : xs[i]? = some z) : ∃ q, zs[i]? = some q ∧ Dn K G (.ref z.2.1) (enc q) := by
  obtain ⟨p, e1, e2⟩ := ens_get h hz
  have e3 : (m.map (·.1))[i]? = some p.1 := by rw [List.getElem?_map, e1]; rfl
  rw [hm, List.getElem?_map] at e3
  cases hq : zs[i]? with
  | none => rw [hq] at e3; cases e3
  | some q =>
    rw [hq] at e3
    have : enc q = p.1 := Option.some.inj e3
    exact ⟨q, rfl, by rw [this]; exact e2⟩
/-- [elt for x in a new dict if ..] -/
theorem s_lcD {ifs : List Expr} (o : Ok M X N sc k) (own : List (Str × Nat)) (j : Nat) (enc : α → PyData) (Pz : List α → Prop) (f : α → Bool) (g : α → PyData)
    (hi : KD M X iter σ F H P) (hP : ∀ m, P m → ∃ zs, m.map (·.1) = zs.map enc ∧ zs.length < 100000 ∧ Pz zs) (ok : blkC N sc scope own = true) (hj : j ∈ own.map (·.2)) (hx : N[j]? = some x) (hxl : (relS scope sc).names.lookup x = some .local)
    (ifs1 : ifs = [] ∨ ∃ c, ifs = [c])
    (ht : ∀ zs, Pz zs → ∀ z, z ∈ zs → ∀ v F1 H1, Grow F H F1 H1 → Dn M.K F1 v (enc z) → Blk M X N sc scope k ifs elt ((wipe σ (own.map (·.2))).set j (some v)) F1 H1 (f z) (g z)) (hp : ifs = [] → ∀ z, f z = true)
    (hs : ∀ x, foldedSetIterable iter X.env x = pure x := by intro _; rfl) : XS M X (.ListComp elt [⟨.Name x tp, iter, ifs, 0⟩] scope pos) σ F H (fun d => ∃ zs, Pz zs ∧ d = .list (kept zs f g)) := by
  obtain ⟨tt, htt⟩ := tt_of (X := X) (scope := scope) ifs1
  have okB : BlkOk X.N X.env.scope scope own := by
    rw [o.eN, o.eS]
    exact blkOk_by ok
  refine ⟨fun F1 H1 gr Q q => ?_⟩
  refine WE.of (pe_lc o.calm (by rw [o.eN]; exact o.nd) (pi_dk WE.pe) okB (lc_target o hx hxl) htt.pts BE.pe hs) ?_
  show iDk X.w (WE X iter) σ H1 _
  refine hi.run F1 H1 gr _ fun m a F2 H2 hm g2 hF2 hH1 dk => ?_
  obtain ⟨zs, hmz, hlen, hPz⟩ := hP m hm
  obtain ⟨ob, xs, h1, h2, h3⟩ := dk.ex
  have hxl' : xs.length = zs.length := by
    have := congrArg List.length hmz
    rw [List.length_map, List.length_map] at this
    rw [h3.len, this]
  refine ⟨a, ob, xs, rfl, h1, by rw [o.eW]; exact h2, dk.low, fun B hB => ?_⟩
  refine lc_x (xs := xs) (fun i H' => LcP M.K F2 H2 B (kept (zs.take i) f g) H') ?_ (fun i H' _ pv => ?_) (fun i z H' hz' pv => ?_) (fun H' pv => ?_)
  · exact ⟨F2, [], Grow.own g2.le hB, g2.le.free hB, hB, upd_same, .nil⟩
  · obtain ⟨F', us, g', _⟩ := pv
    exact g'.kp _ _ h1
  · obtain ⟨y, e2, r1⟩ := ens_at h3 hmz hz'
    have hmem : y ∈ zs := List.mem_of_getElem? e2
    have T := lc_turn (F := F2) (H := H2) (σ := σ) (b := f y) (e := g y) (v := .ref z.2.1) (H' := H') (D := B) (ix := i) o htt hj pv (Nat.lt_of_le_of_lt (kept_len _ _ _) (Nat.lt_of_le_of_lt (by rw [List.length_take]; exact Nat.min_le_right _ _) hlen)) (fun _ => r1)
      (fun F3 H3 g3 => ht zs hPz y hmem _ F3 H3 ((gr.trans g2).trans g3) (r1.mono g3.ex)) (fun h => hp h y) g2.le
    rw [← kept_snoc, ← take_snoc e2] at T
    exact T
  · rw [hxl', List.take_length] at pv
    obtain ⟨F', us, g', c1, c2, c3, r⟩ := pv
    have gG := (g2.trans g').fix (o := .lst us) c1 (g2.kp.free c2) c3
    exact q _ _ _ H' ⟨zs, hPz, rfl⟩ gG (.lst upd_same (r.mono (same_under c1)))
end
/-- sorted of some list of rows -/
theorem o_sortedS {M : Md} {X : Cx} {N : List Str} {sc : Scope} {k : Nat} {σ : L2.St} {F H : Hp} {e : Expr} {pos p : Pos} {due : List (List Int)} {P : PyData → Prop} (o : Ok M X N sc k) (hm : M.mg "sorted" = none) (ha : XS M X e σ F H P)
    (hP : ∀ d, P d → ∃ rows : List (List Int), d = .list (rows.map tI) ∧ (∀ r, r ∈ rows → r ≠ []) ∧ srtR rows = due) (hg : sc.names.lookup ("sorted" : Str) = some .globalImplicit)
    (he : starEach (e :: []) X.env = (false, eval e X.env) :: starEach [] X.env := by rfl) (hpl : (backTo pos (starEach [] X.env)).any (·.1) = false := by rfl) : XO M X (.Call (.Name "sorted" p) [e] [] pos) σ F H (due.map tI) := by
  refine ⟨fun F1 H1 g Q q => ?_⟩
  refine WE.of (pe_callB (cr_sortedN o.room.units) (gl_of o.toOk0 hg) (by rw [o.eG]; exact hm) PyProof.Rows.boot_sorted (pa_cons WE.pe pa_nil he) (by decide +kernel) (by decide +kernel) he hpl) ?_
  refine ha.run F1 H1 g _ fun d v F2 H2 hd g2 r2 => ?_
  obtain ⟨rows, rfl, hr, hdue⟩ := hP d hd
  cases r2 with
  | lst hl s =>
    refine ⟨F2, _, _, rows.map tI, rfl, SqL.of (g2.le _ _ hl), g2.le, by rw [o.eK]; exact s, allAlike_tI rows, sortable_tI hr, fun b hb => ?_, fun ys l r hl' => ?_⟩
    · obtain ⟨r, _, rfl⟩ := List.mem_map.mp hb
      exact can_tI r
    · rw [sort_tI, hdue, o.eK] at r
      exact q l ys F2 _ (g2.trans (Grow.own g2.le hl')) (g2.le.free hl') (g2.kp.free hl') upd_same r
end Lay
namespace Lay
open PySem PySem.Spec PyProof.Rows L2
section
variable {M : Md} {X : Cx} {N : List Str} {sc : Scope} {k : Nat} {σ : L2.St} {F H : Hp} {d e' : PyData} {a b : Expr} {pos : Pos}
/-- {key: value} -/
theorem k_disp1 (o : Ok M X N sc k) (ha : XD M X a σ F H d) (hk : keyD d) (hb : XD M X b σ F H e') : KD M X (.Dict [some a] [b] pos) σ F H (fun m => m = [(d, e')]) := by
  refine ⟨fun F1 H1 g Q q => ⟨fun pins s I => ?_⟩⟩
  have hn := I.hok.fresh (Nat.le_refl s.heap.objs.size)
  let o0 : Obj := { cls := .type "dict", data := .dict #[] }
  have e0 : (s.heap.push o0).get? s.heap.objs.size = some o0 := Heap.get?_push_size _ rfl
  have I1 : Inv X pins σ (upd H1 s.heap.objs.size (obO s.heap.objs.size o0)) { s with heap := s.heap.push o0 } := I.laid (t' := s.toks) (fun _ _ q => Heap.get?_push_of_some _ q) (Nat.le_refl _) (ob_ok e0)
  have hu8 : (nestedKind X.prog X.w).room X.A := by have := o.room.un; show X.A.units + 8 < cLine; omega
  have G1 : Grow F1 H1 F1 (upd H1 s.heap.objs.size (obO s.heap.objs.size o0)) := Grow.own g.le hn
  rw [arm_eval_Dict, zip_pairTrees [some a] [b] X.env pos rfl rfl, dictDisplay_pairs (pairTrees [some a] [b] X.env pos) (by intro z; cases z) (by show 1 < 17; omega)]
  refine wpAny_bind (wpAny_standAt (wpAny_bind (wpAny_subDictH (knd := nestedKind X.prog X.w) (Q := fun c t => wpAny (model X.prog X.w) X.A (pure (Value.ref c)) (EP X pins σ Q) X.xe t) hu8 (by show 1 ≤ 15; omega) ?_)))
  refine pairTrees_cons_walk (thn ((ha.run F1 _ (g.trans G1) (fun v H2 => ∃ F2, Grow F1 (upd H1 s.heap.objs.size (obO s.heap.objs.size o0)) F2 H2 ∧ Dn M.K F2 v d) fun v F2 H2 g2 r2 => ⟨F2, g2, r2⟩).run pins _ I1) fun u s2 ⟨v, H2, I2, rv, F2, g2, r2⟩ => ?_)
  refine thn ((hb.run F2 H2 ((g.trans G1).trans g2) (fun v H3 => ∃ F3, Grow F2 H2 F3 H3 ∧ Dn M.K F3 v e') fun v F3 H3 g3 r3 => ⟨F3, g3, r3⟩).run pins s2 I2) fun u3 s3 ⟨v3, H3, I3, rv3, F3, g3, r3⟩ => ?_
  refine pairTrees_nil_walk ?_
  have r2' : Dn X.K F3 v d := by rw [o.eK]; exact r2.mono g3.ex
  obtain ⟨c, rfl, rfl, hi⟩ := key_at I3 g3.le hk r2' rv
  have hH3 : H3 s.heap.objs.size = some (obO s.heap.objs.size o0) := (g2.trans g3).kp _ _ upd_same
  have e3 := ob_at I3 hH3
  refine ⟨[(keyOf d, c, u3)], ⟨rfl, rfl, hi, trivial⟩, ⟨o0, #[], 0, e3, ⟨rfl, rfl, rfl⟩, rfl, rfl, (fun _ hx => nomatch hx), List.nodup_nil⟩, fun h2 tk dd hs => wpAny_pure ?_⟩
  obtain ⟨q1, es, ep, hq, hx, hdt, hes, _, hnd⟩ := dd
  have hF1 : F1 s.heap.objs.size = none := g.le.free hn
  have hF3 : F3 s.heap.objs.size = none := (g2.trans g3).new _ hF1 (by rw [upd_same]; intro z; cases z)
  have GG := (G1.trans g2).trans g3
  have en : Ens M.K F3 [(keyOf d, c, u3)] [(d, e')] := .cons rfl hk.1 hk.2.1 (r2.mono g3.ex) rv3 r3 .nil
  have low : (s.heap.objs.size == sysModules) = false := beq_false_of_ne (Nat.ne_of_gt I.big)
  have dk : Dk M.K M.w F3 (upd H3 s.heap.objs.size (obO s.heap.objs.size q1)) s.heap.objs.size [(d, e')] := by
    rw [← o.eW]
    exact ⟨⟨q1, _, upd_same, ⟨hx, ⟨es, ep, hdt, hes⟩, hnd⟩, en⟩, low⟩
  have hF0 := hF1
  have gg : Grow F1 H1 F3 (upd H3 s.heap.objs.size (obO s.heap.objs.size q1)) := GG.set hF3 hn
  refine ⟨.ref s.heap.objs.size, upd H3 s.heap.objs.size (obO s.heap.objs.size q1), ?_, rfl, q _ _ F3 _ rfl gg hF3 hn dk⟩
  exact d_write I3 (by rw [hH3]; exact True.intro) hs ⟨q1, hq⟩ (ob_ok hq)
end
end Lay

/-! Lay12: a comprehension over two lists at once; a pair of a new list and a datum. -/
namespace Lay
open PySem L2
section
variable {M : Md} {X : Cx} {N : List Str} {sc scope : Scope} {k j1 j2 i : Nat} {σ : L2.St} {env : List (Option PyData)} {F0 H0 F H : Hp} {a b elt : Expr} {pos p zp tp1 tp2 tpos np ap : Pos} {x1 x2 x : Str} {ds : List PyData} {d : PyData} {e : Expr} {es : List Expr} {D : Ends} {C : CXT} {R : List PyData → Out → Prop}
theorem lc_name (o : Ok M X N sc k) {j : Nat} {y : Str} {tp : Pos} (hx : N[j]? = some y) (hxl : (relS scope sc).names.lookup y = some .local) (s : Shared) (H : Hp) (C : Addr) (cl : List (Str × Addr)) (fp : List Addr) : PG (X.blk s H scope (compEnvC scope cl C X.env) fp) (.Name y tp) (gName j) := lc_target o hx hxl s H C cl fp
theorem wipe_get (τ : L2.St) (us : List Nat) (i : Nat) : (L2.wipe τ us)[i]? = if i ∈ us then (if i < τ.length then some none else none) else τ[i]? := by
  induction us generalizing i with
  | nil => simp [L2.wipe]
  | cons u us ih =>
    show ((L2.wipe τ us).set u none)[i]? = _
    rw [List.getElem?_set, ih i, L2.wipe_length]
    by_cases hu : u = i
    · subst hu
      simp
    · have h2 : ¬ i = u := fun z => hu z.symm
      simp [hu, h2]
theorem wipe_set2 (σ : L2.St) {v w : Option V} (vs : List Nat) (h1 : j1 ∈ vs) (h2 : j2 ∈ vs) : L2.wipe (((L2.wipe σ vs).set j1 v).set j2 w) vs = L2.wipe σ vs := by
  refine List.ext_getElem? fun i => ?_
  rw [wipe_get, wipe_get]
  by_cases hi : i ∈ vs
  · rw [if_pos hi, if_pos hi, List.length_set, List.length_set, L2.wipe_length]
  · rw [if_neg hi, if_neg hi, List.getElem?_set_ne (fun z => hi (by rw [← z]; exact h2)), List.getElem?_set_ne (fun z => hi (by rw [← z]; exact h1)), wipe_get, if_neg hi]
/-- [elt for x1, x2 in zip(a, b)], two lists of one length -/
theorem o_lcZ {α β : Type} {kk : Nat} (o : Ok M X N sc k) (own : List (Str × Nat)) (j1 j2 : Nat) (enc : α → PyData) (enc' : β → PyData) (zs : List α) (ys : List β) (g : Nat → PyData) (hm : M.mg "zip" = none) (hg : sc.names.lookup ("zip" : Str) = some .globalImplicit)
    (ha : XD M X a σ F H (.list (zs.map enc))) (hb : XD M X b σ F H (.list (ys.map enc'))) (hl : zs.length = ys.length) (ok : blkC N sc scope own = true) (hj1 : j1 ∈ own.map (·.2)) (hj2 : j2 ∈ own.map (·.2)) (hx1 : N[j1]? = some x1) (hx2 : N[j2]? = some x2) (hxl1 : (relS scope sc).names.lookup x1 = some .local) (hxl2 : (relS scope sc).names.lookup x2 = some .local) (hz : zs.length < 100000)
    (ht : ∀ i z y, zs[i]? = some z → ys[i]? = some y → ∀ v w F1 H1, Grow F H F1 H1 → Dn M.K F1 v (enc z) → Dn M.K F1 w (enc' y) → ∀ Y, Ok M Y N (relS scope sc) k → XD M Y elt (((wipe σ (own.map (·.2))).set j1 (some v)).set j2 (some w)) F1 H1 (g i))
    (he1 : starEach [a, b] X.env = (false, eval a X.env) :: starEach [b] X.env := by rfl) (he2 : starEach [b] X.env = (false, eval b X.env) :: starEach [] X.env := by rfl) (hpl : (backTo zp (starEach [b] X.env)).any (·.1) = false := by rfl)
    (hs : ∀ x, foldedSetIterable (.Call (.Name "zip" p) [a, b] [] zp) X.env x = pure x := by intro _; rfl) :
    XO M X (.ListComp elt [⟨.Tuple [.Name x1 tp1, .Name x2 tp2] kk tpos, .Call (.Name "zip" p) [a, b] [] zp, [], 0⟩] scope pos) σ F H ((List.range zs.length).map g) := by
  have okB : BlkOk X.N X.env.scope scope own := by
    rw [o.eN, o.eS]
    exact blkOk_by ok
  have hT : ∀ (s : Shared) (H : Hp) (C : Addr) (cl : List (Str × Addr)) (fp : List Addr), PG (X.blk s H scope (compEnvC scope cl C X.env) fp) (.Tuple [.Name x1 tp1, .Name x2 tp2] kk tpos) (gTup X.K 2 (gCons (gName j1) (gCons (gName j2) gNil))) := fun s H C cl fp => by
    have t1 : PG (X.blk s H scope (compEnvC scope cl C X.env) fp) (.Name x1 tp1) (gName j1) := lc_name o hx1 hxl1 s H C cl fp
    have t2 : PG (X.blk s H scope (compEnvC scope cl C X.env) fp) (.Name x2 tp2) (gName j2) := lc_name o hx2 hxl2 s H C cl fp
    exact pg_tup (X := X.blk s H scope (compEnvC scope cl C X.env) fp) o.calm (pgs_cons t1 (pgs_cons t2 pgs_nil))
  refine ⟨fun F1 H1 gr Q q => ?_⟩
  refine WE.of (pe_lc o.calm (by rw [o.eN]; exact o.nd) (pi_zip (gl_of o.toOk0 hg) (by rw [o.eG]; exact hm) (pa_cons WE.pe (pa_cons WE.pe pa_nil he2) he1) he1 hpl) okB
    hT (fun _ _ _ _ _ => pts_nil) BE.pe hs) ?_
  refine ha.run F1 H1 gr _ fun y1 F2 H2 g2 r2 => ?_
  refine hb.run F2 H2 (gr.trans g2) _ fun y2 F3 H3 g3 r3 => ?_
  have r2' := r2.mono g3.ex
  have G3 := gr.trans (g2.trans g3)
  cases r2' with
  | lst h1 s1 =>
    rename_i a1 xs1
    cases r3 with
    | lst h2 s2 =>
      rename_i a2 xs2
      have len1 := s1.len
      have len2 := s2.len
      rw [List.length_map] at len1 len2
      refine ⟨a1, a2, xs1, xs2, rfl, SqL.of (g3.le _ _ h1), SqL.of (g3.le _ _ h2), fun B hB => ?_⟩
      let Pv : Nat → Hp → Prop := fun i H' => LcP M.K F3 H3 B ((List.range i).map g) H'
      have still : ∀ i H', Pv i H' → SqL X.K H' a1 xs1 ∧ SqL X.K H' a2 xs2 := fun i H' pv => by
        obtain ⟨F', us, g', _⟩ := pv
        exact ⟨SqL.of (g'.kp _ _ (g3.le _ _ h1)), SqL.of (g'.kp _ _ (g3.le _ _ h2))⟩
      refine ⟨fun i m H' => m = zs.length - i ∧ i ≤ zs.length ∧ Pv i H', ⟨zs.length, by simp, Nat.zero_le _, F3, [], Grow.own g3.le hB, g3.le.free hB, hB, upd_same, .nil⟩, ?_⟩
      rintro i m H' ⟨rfl, hi, pv⟩
      obtain ⟨q1, q2⟩ := still i H' pv
      by_cases hlt : i < zs.length
      · have hz1 : zs[i]? = some zs[i] := List.getElem?_eq_getElem hlt
        have hz2 : ys[i]? = some ys[i] := List.getElem?_eq_getElem (by omega)
        obtain ⟨v, e1, rv⟩ := s1.get (i := i) (d := enc zs[i]) (by rw [List.getElem?_map, hz1]; rfl)
        obtain ⟨w, e2, rw'⟩ := s2.get (i := i) (d := enc' ys[i]) (by rw [List.getElem?_map, hz2]; rfl)
        refine .inr ⟨⟨xs1, xs2, v, w, q1, q2, e1, e2⟩, Pv (i + 1), fun H4 p4 => ⟨zs.length - (i + 1), by omega, rfl, hlt, p4⟩, fun u H4 yl => ?_⟩
        obtain ⟨T, x, y, rfl, hT, rfl, hx, hy⟩ := yl
        have ex := hx xs1 q1
        have ey := hy xs2 q2
        rw [e1] at ex
        rw [e2] at ey
        cases ex
        cases ey
        obtain ⟨F', us, g', fB, hB', jB, r⟩ := pv
        refine ⟨T, [v, w], rfl, SqT.of upd_same, rfl, v, _, rfl, w, _, rfl, rfl, ?_, ?_⟩
        · exact wipe_set2 σ (own.map (·.2)) hj1 hj2
        · show (if true = true then BE X scope elt (((wipe σ (own.map (·.2))).set j1 (some v)).set j2 (some w)) (upd H' T (.tup [v, w])) (fun y H5 => ∃ acc, H5 B = some (.lst acc) ∧ acc.length < sizeLine ∧ Pv (i + 1) (upd H5 B (.lst (acc ++ [y])))) else Pv (i + 1) (upd H' T (.tup [v, w])))
          rw [if_pos rfl]
          have gT : Grow F' H' F' (upd H' T (.tup [v, w])) := Grow.own g'.le hT
          refine ⟨fun s0 HH C cl fp => ?_⟩
          refine (ht i _ _ hz1 hz2 v w F' (upd H' T (.tup [v, w])) ((G3.trans g').trans gT) (rv.mono g'.ex) (rw'.mono g'.ex) _ o.blk).run F' _ (Grow.refl gT.le) _ fun y F5 H5 g5 r5 => ?_
          have g6 := gT.trans g5
          refine ⟨us, g6.kp B _ jB, ?_, F5, us ++ [y], (g'.trans g6).set (g6.new B fB (by rw [jB]; intro z; cases z)) hB', g6.new B fB (by rw [jB]; intro z; cases z), hB', upd_same, ?_⟩
          · rw [r.len, List.length_map, List.length_range]
            exact Nat.lt_of_lt_of_le (Nat.lt_trans hlt hz) (by decide)
          · rw [List.range_succ, List.map_append]
            exact (r.mono g6.ex).app (.cons r5 .nil)
      · have e : i = zs.length := by omega
        subst e
        refine .inl ⟨⟨xs1, xs2, q1, q2, .inl (by omega)⟩, ?_⟩
        obtain ⟨F', us, g', c1, c2, c3, r⟩ := pv
        exact q B us F' H' ((g2.trans g3).trans g') c1 ((g2.trans g3).kp.free c2) c3 r
/-! ### a pair of a new list and a datum -/
structure OwP (K : PySem.W.Frag) (F0 H0 F H : Hp) (p l : Addr) (ds : List PyData) (d : PyData) : Prop where
  g : Grow F0 H0 F H
  fp : F p = none
  hp : H0 p = none
  fl : F l = none
  hl : H0 l = none
  ne : p ≠ l
  at' : ∃ v us, H p = some (.tup [.ref l, v]) ∧ H l = some (.lst us) ∧ Dns K F us ds ∧ Dn K F v d
theorem OwP.grow {K : PySem.W.Frag} {F0 H0 F H G J : Hp} {p l : Addr} {ds : List PyData} {d : PyData} (o : OwP K F0 H0 F H p l ds d) (g : Grow F H G J) : OwP K F0 H0 G J p l ds d := by
  obtain ⟨v, us, h1, h2, h3, h4⟩ := o.at'
  exact ⟨o.g.trans g, g.new p o.fp (by rw [h1]; intro z; cases z), o.hp, g.new l o.fl (by rw [h2]; intro z; cases z), o.hl, o.ne, v, us, g.kp _ _ h1, g.kp _ _ h2, h3.mono g.ex, h4.mono g.ex⟩
/-- name = f(..), f giving such a pair -/
theorem t_setP {j : Nat} {fp' : Pos} {f : Str} (o : Ok M X N sc k) (fs : Fs X) (S : Stt M.K F H σ env) (hN : At N i x) (fc : Fc M C f j (spG M.K R)) (pz : Pz M C) (ha : XA M X (e :: es) σ F H ds) {rs : List PyData} (r : R ds (.pair rs d)) (hj : j ≤ k) (hg : sc.names.lookup f = some .globalImplicit)
    (kk : ∀ q l F' H', Grow F H F' H' → OwP M.K F H F' H' q l rs d → Stt M.K F' H' (σ.set i (some (.ref q))) (env.set i none) → D.nx (σ.set i (some (.ref q))) H')
    (hl : locB sc x = true) (hdb : (f == ("__debug__" : Str)) = false := by decide +kernel) (he : starEach (e :: es) X.env = (false, eval e X.env) :: starEach es X.env := by rfl) (hpl : (backTo zp (starEach es X.env)).any (·.1) = false := by rfl)
    (hs : swapsWith (.Call (.Name f fp') (e :: es) [] zp) (some (.Name x p)) pos.line X.env = pure false := by rfl) : W1 X (.Assign [.Name x p] (.Call (.Name f fp') (e :: es) [] zp) pos) D σ H := by
  refine s_setW o.toOk0 fs i (we_call o fc hj (pz X o.eP o.eW) (ha.run F H (Grow.refl S.le) _ fun vs F2 H2 g2 r2 => ⟨F2, ds, .pair rs d, g2.le, r2, r, fun q l us v F' H' g' h1 h2 h3 h4 h5 h6 h7 h8 h9 => ?_⟩) hg hdb he hpl) hN.get hl hs
  exact kk q l F' H' (g2.trans g') ⟨g2.trans g', h1, g2.kp.free h2, h3, g2.kp.free h4, h5, v, us, h6, h7, h8, h9⟩ ((S.grow (g2.trans g')).lose)
/-- seen as data -/
theorem OwP.seen {q l : Addr} (w : OwP M.K F0 H0 F H q l ds d) (S : Stt M.K F H σ env) (hv : σ[i]? = some (some (.ref q))) : ∃ u1 u2, H l = some u1 ∧ H q = some u2 ∧ Stt M.K (upd (upd F l u1) q u2) H σ (env.set i (some (.tuple [.list ds, d]))) := by
  obtain ⟨v, us, h1, h2, h3, h4⟩ := w.at'
  refine ⟨_, _, h2, h1, ?_⟩
  have hFq : upd F l (.lst us) q = none := by rw [upd_ne w.ne]; exact w.fp
  have e1 : Same F (upd F l (.lst us)) := same_under w.fl
  have e2 : Same (upd F l (.lst us)) (upd (upd F l (.lst us)) q (.tup [.ref l, v])) := same_under hFq
  have le : Same (upd (upd F l (.lst us)) q (.tup [.ref l, v])) H := fun b o e => by
    by_cases hb : b = q
    · subst hb
      rw [upd_same] at e
      rw [h1]
      exact e
    · rw [upd_ne hb] at e
      by_cases hb2 : b = l
      · subst hb2
        rw [upd_same] at e
        rw [h2]
        exact e
      · rw [upd_ne hb2] at e
        exact S.le b o e
  have S2 : Stt M.K (upd (upd F l (.lst us)) q (.tup [.ref l, v])) H σ env := ⟨le, S.sl.mono (e1.trans e2), S.ln⟩
  have hl' : upd (upd F l (.lst us)) q (.tup [.ref l, v]) l = some (.lst us) := by rw [upd_ne (Ne.symm w.ne)]; exact upd_same
  have r : Dn M.K (upd (upd F l (.lst us)) q (.tup [.ref l, v])) (.ref q) (.tuple [.list ds, d]) := .tup (SqT.of upd_same) (.cons (.lst hl' (h3.mono (e1.trans e2))) (.cons (h4.mono (e1.trans e2)) .nil))
  have S3 := S2.set (i := i) r
  have e : σ.set i (some (.ref q)) = σ := by
    refine List.ext_getElem? fun j => ?_
    by_cases hj : i = j
    · subst hj
      have hlt := (List.getElem?_eq_some_iff.mp hv).1
      rw [List.getElem?_set_self hlt, hv]
    · rw [List.getElem?_set_ne hj]
  rw [e] at S3
  exact S3
/-- a test while the pair stands for good -/
theorem OwP.under {q l : Addr} {u1 u2 : HO} {c : Bool} (w : OwP M.K F0 H0 F H q l ds d) (h1 : H l = some u1) (h2 : H q = some u2) (h : XB M X e σ (upd (upd F l u1) q u2) H c) : XB M X e σ F H c :=
  XB.under w.fl h1 (XB.under (by rw [upd_ne w.ne]; exact w.fp) h2 h)
/-- name[0].append(e) -/
theorem t_appendP {q l : Addr} {cn : Nat} {p1 p2 : Pos} (o : Ok M X N sc k) (S : Stt M.K F H σ env) (w : OwP M.K F0 H0 F H q l ds d) (hN : At N i x) (hv : σ[i]? = some (some (.ref q))) (hz : ds.length < 100000) {d2 : PyData} (h : XD M X e σ F H d2)
    (kk : ∀ F' H', Grow F0 H0 F' H' → Stt M.K F' H' σ env → D.nx σ H') (hs : nameB sc x = true)
    (hst : starEach [e] X.env = (false, eval e X.env) :: starEach [] X.env := by rfl) (hline : (ap.endLine == pos.line) = true := by rfl)
    (hfew : ((backTo pos (starEach [e] X.env)).all (fun x => !x.1) && (backToKw pos (keywordEach [] X.env)).all (fun x => x.1.isSome) && decide ([e].length + ([] : List Keyword).length + (if ([] : List Keyword).isEmpty then 0 else 1) < 30)) = true := by rfl)
    (hpl : (backTo pos (starEach [] X.env)).any (·.1) = false := by rfl)
    (hbase : attributeBase (.Subscript (.Name x np) (.Constant (.int 0) cn p1) p2) "append" X.env (eval (.Subscript (.Name x np) (.Constant (.int 0) cn p1) p2) X.env) = eval (.Subscript (.Name x np) (.Constant (.int 0) cn p1) p2) X.env := by rfl)
    (hsw : swapsWith (.Call (.Attribute (.Subscript (.Name x np) (.Constant (.int 0) cn p1) p2) "append" ap) [e] [] pos) none p.line X.env = pure false := by rfl) :
    W1 X (.Expr (.Call (.Attribute (.Subscript (.Name x np) (.Constant (.int 0) cn p1) p2) "append" ap) [e] [] pos) p) D σ H := by
  unfold nameB at hs
  simp only [Bool.and_eq_true, Bool.not_eq_true'] at hs
  obtain ⟨v, us, h1, h2, h3, h4⟩ := w.at'
  refine s_expr (WE.of (pe_bm PySem.F.plainAttrs_list PySem.F.slot_list_append PySem.F.type_list_append mt_append (pe_ix ix_tup WE.pe pe_int (by exact fun _ _ => rfl)) (pa_cons WE.pe pa_nil hst) hbase hfew hline hst hpl) ?_) hsw
  refine we_slot o.toOk0 i hv ?_ hN.get hs.1.1 hs.1.2 hs.2
  refine ⟨q, [.ref l, v], 0, .ref l, rfl, rfl, SqT.of h1, rfl, ?_⟩
  refine ⟨.inl ⟨rfl, _, by rw [o.eK]; exact SqL.of h2⟩, ?_⟩
  refine h.run F H (Grow.refl S.le) _ fun y F2 H2 g2 r2 => ?_
  have w2 := w.grow g2
  refine ⟨l, us, y, rfl, rfl, g2.kp _ _ h2, ?_, kk F2 _ (w2.g.set w2.fl w2.hl) ((S.grow g2).own w2.fl)⟩
  rw [h3.len]
  exact Nat.lt_of_lt_of_le hz (by decide)
end
end Lay

/-! Lay13: some data: list of a new dict, sorted, set. -/
namespace Lay
open PySem PySem.Spec PyProof.Rows PySem.W L2
section
variable {M : Md} {X : Cx} {N : List Str} {sc scope : Scope} {k j i : Nat} {σ : L2.St} {env : List (Option PyData)} {F0 H0 F H : Hp} {d e' : PyData} {ds : List PyData} {m : List (PyData × PyData)} {e a b iter elt : Expr} {es : List Expr} {D : Ends} {pos p np p2 tp : Pos} {x : Str} {l : Addr} {Q : VK} {E : XK} {P : List (PyData × PyData) → Prop} {R : List PyData → Out → Prop} {C : CXT} {α : Type}
theorem XD.xs (h : XD M X e σ F H d) : XS M X e σ F H (fun d' => d' = d) := ⟨fun F1 H1 g Q q => h.run F1 H1 g Q fun v F' H' g' r => q d v F' H' rfl g' r⟩
theorem XS.imp {P P' : PyData → Prop} (h : XS M X e σ F H P) (hp : ∀ d, P d → P' d) : XS M X e σ F H P' := ⟨fun F1 H1 g Q q => h.run F1 H1 g Q fun d v F' H' hd => q d v F' H' (hp d hd)⟩
theorem KD.imp {P P' : List (PyData × PyData) → Prop} (h : KD M X e σ F H P) (hp : ∀ d, P d → P' d) : KD M X e σ F H P' := ⟨fun F1 H1 g Q q => h.run F1 H1 g Q fun d v F' H' hd => q d v F' H' (hp d hd)⟩
/-- list(a new dict) -/
theorem s_listK (o : Ok M X N sc k) (hm : M.mg "list" = none) (h : KD M X e σ F H P) (hz : ∀ m, P m → m.length ≤ 100000) (hg : sc.names.lookup ("list" : Str) = some .globalImplicit)
    (he : starEach (e :: []) X.env = (false, eval e X.env) :: starEach [] X.env := by rfl) (hpl : (backTo pos (starEach [] X.env)).any (·.1) = false := by rfl) : XS M X (.Call (.Name "list" p) [e] [] pos) σ F H (fun d => ∃ m, P m ∧ d = .list (m.map (·.1))) := by
  refine ⟨fun F1 H1 g Q q => ?_⟩
  refine WE.of (pe_callTy (call_list_x o.calm) (gl_of o.toOk0 hg) (by rw [o.eG]; exact hm) PyProof.Rows.boot_list (pa_cons WE.pe pa_nil he) (by decide +kernel) (by decide +kernel) he hpl) ?_
  refine h.run F1 H1 g _ fun m l F2 H2 hPm g2 hF2 hH1 dk => ?_
  obtain ⟨ob, xs, h1, h2, h3⟩ := dk.ex
  refine ⟨l, ob, xs, rfl, h1, by rw [o.eW]; exact h2, dk.low, by rw [h3.len]; exact hz m hPm, fun r hr => ?_⟩
  have hd : Dns M.K F2 (xs.map fun x => V.ref x.2.1) (m.map (·.1)) := by
    clear h1 h2 q dk hPm
    induction h3 with
    | nil => exact .nil
    | cons _ _ _ a4 _ _ t ih => exact .cons a4 ih
  have G := (g2.trans (Grow.own g2.le hr)).fix (o := .lst (xs.map fun x => V.ref x.2.1)) (g2.le.free hr) (g2.kp.free hr) upd_same
  exact q _ _ _ _ ⟨m, hPm, rfl⟩ G (.lst upd_same (hd.mono (same_under (g2.le.free hr))))
/-- sorted(some list) -/
theorem s_sorted {P : PyData → Prop} (o : Ok M X N sc k) (hm : M.mg "sorted" = none) (ha : XS M X e σ F H P)
    (hP : ∀ d, P d → ∃ bs : List PyData, d = .list bs ∧ AllAlike bs ∧ Sortable bs ∧ ∀ b, b ∈ bs → b.canLay0 = true ∧ b.depth ≤ 60) (hg : sc.names.lookup ("sorted" : Str) = some .globalImplicit)
    (he : starEach (e :: []) X.env = (false, eval e X.env) :: starEach [] X.env := by rfl) (hpl : (backTo pos (starEach [] X.env)).any (·.1) = false := by rfl) : XS M X (.Call (.Name "sorted" p) [e] [] pos) σ F H (fun d => ∃ bs, P (.list bs) ∧ d = .list (bs.mergeSort (dataLe false id))) := by
  refine ⟨fun F1 H1 g Q q => ?_⟩
  refine WE.of (pe_callB (cr_sortedN o.room.units) (gl_of o.toOk0 hg) (by rw [o.eG]; exact hm) PyProof.Rows.boot_sorted (pa_cons WE.pe pa_nil he) (by decide +kernel) (by decide +kernel) he hpl) ?_
  refine ha.run F1 H1 g _ fun d v F2 H2 hd g2 r2 => ?_
  obtain ⟨bs, rfl, hal, hk, hb⟩ := hP d hd
  cases r2 with
  | lst hl s =>
    refine ⟨F2, _, _, bs, rfl, SqL.of (g2.le _ _ hl), g2.le, by rw [o.eK]; exact s, hal, hk, hb, fun ys l r hl' => ?_⟩
    rw [o.eK] at r
    have G := (g2.trans (Grow.own g2.le hl')).fix (o := .lst ys) (g2.le.free hl') (g2.kp.free hl') upd_same
    exact q _ _ _ _ ⟨bs, hd, rfl⟩ G (.lst upd_same (r.mono (same_under (g2.le.free hl'))))
/-- name = some datum -/
theorem t_setS {P : PyData → Prop} (o : Ok M X N sc k) (fs : Fs X) (S : Stt M.K F H σ env) (hN : At N i x) (h : XS M X e σ F H P)
    (kk : ∀ d v F' H', P d → Grow F H F' H' → Stt M.K F' H' (σ.set i (some v)) (env.set i (some d)) → D.nx (σ.set i (some v)) H') (hl : locB sc x = true) (hs : swapsWith e (some (.Name x p)) pos.line X.env = pure false := by rfl) : W1 X (.Assign [.Name x p] e pos) D σ H :=
  s_setW o.toOk0 fs i (h.run F H (Grow.refl S.le) _ fun d v F' H' hd g r => kk d v F' H' hd g ((S.grow g).set r)) hN.get hl hs
end
end Lay

/-! Lay14: dicts got, returned, walked by for; how many unlike numbers. -/
namespace Lay
open PySem PySem.Spec PyProof.Rows L2
/-- so many unlike numbers -/
def unl (ns : List Int) : List Int := firstMet (fun i => ns.getD i 0) ns.length
/-- a set object of n items -/
def SObj (ob : Obj) (n : Nat) : Prop := ob.ExactSet ∧ ∃ es ep t, ob.data = .set es ep t ∧ t.fits es.size = true ∧ es.size = n
section
variable {X : Cx}
/-- set(a list of few whole numbers): an object with as many items as there are unlike ones -/
theorem cr_setN (hc : X.calm = true) : CallR X (.type "set") (fun as H Q => ∃ (l : Addr) (ns : List Int), as = [V.ref l] ∧ SqL X.K H l (ns.map V.int) ∧ ns.length < 60 ∧ ∀ b ob, H b = none → SObj ob (unl ns).length → Q (.ref b) (upd H b (obO b ob))) := by
  intro ps t σ H as us Q I ra h
  obtain ⟨l, ns, rfl, hl, h60, go⟩ := h
  obtain ⟨u, rfl, ru⟩ := ra.one
  cases ru
  obtain ⟨vs, rv, plain, _⟩ := I.list hl
  have many : vs.toArray.size = ns.length := by
    rw [List.size_toArray, ← rv.length]
    exact List.length_map _
  refine call_set_list (ns := ns) (I.ok.hd hc) plain.isList (by rw [List.toList_toArray]; exact rv.ints) (by rw [many]; exact Nat.lt_of_lt_of_le (Nat.succ_lt_succ h60) (by decide)) fun h2 tk made old => ?_
  rw [many] at made
  obtain ⟨ob, es, ep, tb, at2, ex, dat, _, _, _, fits, cnt⟩ := made
  refine ⟨.ref t.heap.objs.size, _, I.laid (t' := tk) (o := obO t.heap.objs.size ob) (fun c q e => old c q (Heap.lt_size e) e) (Nat.le_refl _) (ob_ok at2), rfl, go _ ob (I.hok.fresh (Nat.le_refl _)) ⟨ex, es, ep, tb, dat, fits, cnt⟩⟩
/-- len of such an object -/
theorem cr_lenN : CallR X (.builtin "len") (fun as H Q => ∃ (b : Addr) (ob : Obj) (n : Nat), as = [V.ref b] ∧ H b = some (obO b ob) ∧ SObj ob n ∧ n < 1000 ∧ Q (.int (n : Int)) H) := by
  intro ps t σ H as us Q I ra h
  obtain ⟨b, ob, n, rfl, hb, ⟨ex, es, ep, tb, dat, fits, cnt⟩, small, go⟩ := h
  obtain ⟨u, rfl, ru⟩ := ra.one
  cases ru
  exact call_len_set (ob_at I hb) ex dat fits (by omega) ⟨.int (n : Int), H, I.tok _, ⟨_, by rw [cnt]⟩, go⟩
end
theorem dns_int_inv {K : PySem.W.Frag} {F : Hp} : ∀ {ns : List Int} {xs : List V}, Dns K F xs (ns.map PyData.int) → xs = ns.map V.int
  | [], _, .nil => rfl
  | n :: ns, _, .cons h t => by
    cases h
    rw [dns_int_inv t]
    rfl
/-- one and only one number -/
theorem unl_one {ns : List Int} : ((unl ns).length == 1) = (!ns.isEmpty && ns.all fun x => decide (x = ns.getD 0 0)) := by
  have key : ∀ i, 1 ≤ i → i ≤ ns.length → (firstMet (fun i => ns.getD i 0) i).length ≥ 1 ∧ ((firstMet (fun i => ns.getD i 0) i).length = 1 → firstMet (fun i => ns.getD i 0) i = [ns.getD 0 0] ∧ ∀ j, j < i → ns.getD j 0 = ns.getD 0 0) ∧ ((∀ j, j < i → ns.getD j 0 = ns.getD 0 0) → firstMet (fun i => ns.getD i 0) i = [ns.getD 0 0]) := by
    intro i h1
    induction i with
    | zero => omega
    | succ i ih =>
      intro hi
      rw [firstMet_succ]
      by_cases h0 : i = 0
      · subst h0
        rw [firstMet_zero]
        refine ⟨Nat.le_refl _, fun _ => ⟨rfl, fun j hj => by rw [show j = 0 by omega]⟩, fun _ => rfl⟩
      · obtain ⟨a, b, c⟩ := ih (by omega) (by omega)
        unfold step_dedup
        by_cases hm : (firstMet (fun i => ns.getD i 0) i).any (· == ns.getD i 0) = true
        · rw [if_pos hm]
          refine ⟨a, fun hl => ?_, fun h => c fun j hj => h j (by omega)⟩
          obtain ⟨b1, b2⟩ := b hl
          refine ⟨b1, fun j hj => ?_⟩
          by_cases e : j = i
          · subst e
            rw [b1] at hm
            simp at hm
            simpa using hm.symm
          · exact b2 j (by omega)
        · rw [if_neg hm, List.length_append]
          refine ⟨by omega, fun hl => ?_, fun h => ?_⟩
          · rw [List.length_singleton] at hl
            omega
          · exfalso
            apply hm
            rw [c fun j hj => h j (by omega)]
            have := h i (by omega)
            simp
            simpa using this.symm
  cases hn : ns with
  | nil => rfl
  | cons x r =>
    rw [← hn]
    have hl : 1 ≤ ns.length := by rw [hn]; simp
    obtain ⟨a, b, c⟩ := key ns.length hl (Nat.le_refl _)
    have he : ns.isEmpty = false := by rw [hn]; rfl
    rw [he]
    unfold unl
    by_cases h : ∀ j, j < ns.length → ns.getD j 0 = ns.getD 0 0
    · rw [c h]
      have : (ns.all fun x => decide (x = ns.getD 0 0)) = true := by
        rw [List.all_eq_true]
        intro y hy
        obtain ⟨j, hj, e⟩ := List.getElem_of_mem hy
        rw [decide_eq_true_eq, ← e, ← h j hj, List.getD_eq_getElem?_getD, List.getElem?_eq_getElem hj]
        rfl
      rw [this]
      rfl
    · have h1 : ((firstMet (fun i => ns.getD i 0) ns.length).length == 1) = false := by
        rw [beq_eq_false_iff_ne]
        intro e
        exact h (b e).2
      have h2 : (ns.all fun x => decide (x = ns.getD 0 0)) = false := by
        cases h3 : (ns.all fun x => decide (x = ns.getD 0 0)) with
        | false => rfl
        | true =>
          exfalso
          apply h
          intro j hj
          rw [List.all_eq_true] at h3
          have := h3 ns[j] (List.getElem_mem hj)
          rw [decide_eq_true_eq] at this
          rw [List.getD_eq_getElem?_getD, List.getElem?_eq_getElem hj]
          exact this
      rw [h1, h2]
      rfl
/-- e gives a dict that P tells of -/
structure KI (M : Md) (X : Cx) (e : Expr) (σ : L2.St) (F H : Hp) (P : List (PyData × PyData) → Prop) : Prop where
  run : ∀ F1 H1, Grow F H F1 H1 → ∀ Q : VK, (∀ m a F' H', P m → Grow F1 H1 F' H' → Dk M.K M.w F' H' a m → Q (.ref a) H') → WE X e σ H1 Q
section
variable {M : Md} {X : Cx} {N : List Str} {sc scope : Scope} {k j i : Nat} {σ : L2.St} {env : List (Option PyData)} {F0 H0 F H : Hp} {d e' e0 : PyData} {ds : List PyData} {m : List (PyData × PyData)} {e a b iter elt : Expr} {es : List Expr} {body : List Stmt} {D : Ends} {pos p np p2 tp ap q : Pos} {x : Str} {l : Addr} {Q : VK} {E : XK} {P : List (PyData × PyData) → Prop} {R : List PyData → Out → Prop} {C : CXT} {α : Type}
theorem KD.ki (h : KD M X e σ F H P) : KI M X e σ F H P := ⟨fun F1 H1 g Q q => h.run F1 H1 g Q fun m a F' H' hm g' _ _ dk => q m a F' H' hm g' dk⟩
theorem i_own (o : Ok0 M X N sc) (w : OwD M.K M.w F0 H0 F H l m) (hN : At N i x) (hv : σ[i]? = some (some (.ref l))) (hs : nameB sc x = true) : KI M X (.Name x pos) σ F H (fun m' => m' = m) := by
  unfold nameB at hs
  simp only [Bool.and_eq_true, Bool.not_eq_true'] at hs
  exact ⟨fun F1 H1 g Q q => we_slot o i hv (q m l F1 H1 rfl (Grow.refl g.le) (w.d.grow g)) hN.get hs.1.1 hs.1.2 hs.2⟩
theorem x_lenSet {ns : List Int} (o : Ok0 M X N sc) (hc : X.calm = true) (hlen : M.mg "len" = none) (hset : M.mg "set" = none) (ha : XD M X a σ F H (.list (ns.map PyData.int))) (hz : ns.length < 60) (hg : sc.names.lookup ("len" : Str) = some .globalImplicit) (hg2 : sc.names.lookup ("set" : Str) = some .globalImplicit)
    (na : starEach [a] X.env = (false, eval a X.env) :: starEach [] X.env := by rfl) (pl1 : (backTo q (starEach [] X.env)).any (·.1) = false := by rfl) (nb : starEach [.Call (.Name "set" p2) [a] [] q] X.env = (false, eval (.Call (.Name "set" p2) [a] [] q) X.env) :: starEach [] X.env := by rfl) (pl2 : (backTo pos (starEach [] X.env)).any (·.1) = false := by rfl) :
    XD M X (.Call (.Name "len" p) [.Call (.Name "set" p2) [a] [] q] [] pos) σ F H (.int ((unl ns).length : Nat)) := by
  have few : (unl ns).length < 1000 := Nat.lt_of_le_of_lt (firstMet_length_le _ _) (Nat.lt_trans hz (by decide))
  refine ⟨fun F1 H1 g Q go => ?_⟩
  refine WE.of (pe_callB cr_lenN (gl_of o hg) (by rw [o.eG]; exact hlen) PySem.boot_len (pa_cons (pe_callTy (cr_setN hc) (gl_of o hg2) (by rw [o.eG]; exact hset) PyProof.Rows.boot_set (pa_cons WE.pe pa_nil na) (by decide +kernel) (by decide +kernel) na pl1) pa_nil nb) (by decide +kernel) (by decide +kernel) nb pl2) ?_
  refine ha.run F1 H1 g _ fun v F2 H2 g2 r2 => ?_
  cases r2 with
  | lst hl s =>
    have := dns_int_inv s
    subst this
    refine ⟨_, ns, rfl, SqL.of (g2.le _ _ hl), hz, fun b ob hb so => ?_⟩
    exact ⟨b, ob, _, rfl, upd_same, so, few, go _ F2 _ (g2.trans (Grow.own g2.le hb)) (.int _)⟩
/-- return a new dict -/
theorem t_retK (le : Same F H) (h : KD M X e σ F H P) (dn : Done M.K F H D.rt E (.dct M.w P)) : W1 X (.Return (some e) pos) D σ H :=
  W1.of (ps_ret WE.pe) (h.run F H (Grow.refl le) _ fun m a F' H' hm g h1 h2 dk => dn m a F' H' hm g h1 h2 dk)
/-- {} -/
theorem k_disp0 : KD M X (.Dict [] [] pos) σ F H (fun m => m = []) := by
  refine ⟨fun F1 H1 g Q q => ⟨fun pins s I => ?_⟩⟩
  have hn := I.hok.fresh (Nat.le_refl s.heap.objs.size)
  let o0 : Obj := { cls := .type "dict", data := .dict #[] }
  have e0 : (s.heap.push o0).get? s.heap.objs.size = some o0 := Heap.get?_push_size _ rfl
  have I1 : Inv X pins σ (upd H1 s.heap.objs.size (obO s.heap.objs.size o0)) { s with heap := s.heap.push o0 } := I.laid (t' := s.toks) (fun _ _ q => Heap.get?_push_of_some _ q) (Nat.le_refl _) (ob_ok e0)
  have low : (s.heap.objs.size == sysModules) = false := beq_false_of_ne (Nat.ne_of_gt I.big)
  refine wpAny_Dict_empty ⟨.ref s.heap.objs.size, _, I1, rfl, q [] _ F1 _ rfl (Grow.own g.le hn) (g.le.free hn) hn ⟨⟨o0, [], upd_same, ⟨⟨rfl, rfl, rfl⟩, ⟨#[], 0, rfl, rfl⟩, List.nodup_nil⟩, .nil⟩, low⟩⟩
/-- name.get(key, other) -/
theorem x_getD (o : Ok M X N sc k) (ha : XD M X a σ F H d) (hk : keyD d) (hb : XD M X b σ F H e0) (w : OwD M.K M.w F0 H0 F H l m) (hN : At N i x) (hv : σ[i]? = some (some (.ref l))) (hs : nameB sc x = true)
    (mm : M2 X (.Name x np) "get" ap a b pos := by exact ⟨rfl, rfl, rfl, rfl⟩) : XD M X (.Call (.Attribute (.Name x np) "get" ap) [a, b] [] pos) σ F H ((lookD m d).getD e0) := by
  unfold nameB at hs
  simp only [Bool.and_eq_true, Bool.not_eq_true'] at hs
  refine ⟨fun F1 H1 g Q q => ⟨fun pins s I => ?_⟩⟩
  refine wpAny_Call_method mm.base mm.few mm.line PySem.F.plainAttrs_dict PySem.F.slot_dict_get PySem.F.type_dict_get (thn ((we_slot (pos := np) (Q := fun v H2 => v = V.ref l ∧ H2 = H1) o.toOk0 i hv ⟨rfl, rfl⟩ hN.get hs.1.1 hs.1.2 hs.2).run pins s I) fun u s1 ⟨vv, H2, I1, rv, ev, eh⟩ => ?_)
  subst ev eh
  obtain rfl : u = Value.ref l := rv
  have dk1 : Dk X.K X.w F1 H2 l m := by rw [o.eK, o.eW]; exact w.d.grow g
  obtain ⟨o1, xs1, h1, h2, h3, h4, h5⟩ := dk_at I1 g.le dk1
  refine ⟨h5.typeIs, fun b' q' => ?_, ?_⟩
  · cases q'
    exact ⟨o1, h2, h3.1.2.1⟩
  rw [mm.trees]
  refine Calls.callWith_builtin rfl (Calls.evalArgs_plain (Calls.spliced_cons (thn ((ha.run F1 H2 g (fun v H3 => ∃ F3, Grow F1 H2 F3 H3 ∧ Dn M.K F3 v d) fun v F3 H3 g3 r3 => ⟨F3, g3, r3⟩).run pins s1 I1) fun iv s2 ⟨y, H3, I2, ry, F3, g3, r3⟩ =>
    Calls.spliced_cons (thn ((hb.run F3 H3 (g.trans g3) (fun v H4 => ∃ F4, Grow F3 H3 F4 H4 ∧ Dn M.K F4 v e0) fun v F4 H4 g4 r4 => ⟨F4, g4, r4⟩).run pins s2 I2) fun fv s3 ⟨z, H4, I3, rz, F4, g4, r4⟩ => Calls.spliced_nil ?_))))
  have dk4 : Dk X.K X.w F4 H4 l m := (dk1.grow g3).grow g4
  obtain ⟨o4, xs, k1, k2, k3, k4, k5⟩ := dk_at I3 g4.le dk4
  obtain ⟨c, rfl, rfl, hi⟩ := key_at I3 g4.le hk (by rw [o.eK]; exact r3.mono g4.ex) ry
  refine getOr_keyed (room_in1 o.room) hi dk4.low ⟨xs, k5, rfl⟩ ?_
  rw [valueAt_pairsH]
  rcases ens_look d k4 with ⟨e1, e2⟩ | ⟨e', a', u', v', e1, e2, e3, e4⟩
  · rw [e2]
    rw [e1] at q
    exact ⟨z, H4, I3.tok _, rz, q z F4 H4 (g3.trans g4) r4⟩
  · rw [e2]
    rw [e1] at q
    exact ⟨v', H4, I3.tok _, e3, q v' F4 H4 (g3.trans g4) (by rw [o.eK] at e4; exact e4)⟩
/-! ### walked -/
theorem for_x {a : Addr} {o : Obj} {xs : List KX} {g : TG} {tb : TS} {D : Ends} {σ : L2.St} {H : Hp} (Pv : Nat → L2.St → Hp → Prop) (h0 : Pv 0 σ H) (hl : ∀ i σ H, i ≤ xs.length → Pv i σ H → H a = some (obO a o))
    (hs : ∀ i z σ H, xs[i]? = some z → Pv i σ H → g (.ref z.2.1) σ H fun σ2 H2 => tb { D with nx := Pv (i + 1), ct := Pv (i + 1), bk := D.nx } σ2 H2) (hd : ∀ σ H, Pv xs.length σ H → D.nx σ H) :
    ∃ W : Nat → Nat → L2.St → Hp → Prop, (∃ m, W 0 m σ H) ∧ ∀ i m σ H, W i m σ H →
      ((Itx a o xs).stop i H ∧ D.nx σ H) ∨ ((Itx a o xs).go i H ∧ ∃ N : L2.St → Hp → Prop, (∀ σ' H', N σ' H' → ∃ m', m' < m ∧ W (i + 1) m' σ' H') ∧ ∀ x H', (Itx a o xs).yld i H x H' → g x σ H' fun σ2 H2 => tb { D with nx := N, ct := N, bk := D.nx } σ2 H2) := by
  refine ⟨fun i m σ H => m = xs.length - i ∧ i ≤ xs.length ∧ Pv i σ H, ⟨xs.length, by simp, Nat.zero_le _, h0⟩, ?_⟩
  rintro i m σ H ⟨rfl, hi, pv⟩
  by_cases hlt : i < xs.length
  · refine .inr ⟨⟨hl i σ H hi pv, hlt⟩, Pv (i + 1), fun σ' H' p' => ⟨xs.length - (i + 1), by omega, rfl, hlt, p'⟩, fun x H' y => ?_⟩
    obtain ⟨rfl, z, hz, rfl⟩ := y
    exact hs i z σ _ hz pv
  · have e : i = xs.length := by omega
    subst e
    exact .inl ⟨⟨hl _ σ H hi pv, Nat.le_refl _⟩, hd σ H pv⟩
/-- for x in a new dict: -/
theorem t_forK (o : Ok M X N sc k) (fs : Fs X) (S : Stt M.K F H σ env) (hN : At N j x) (enc : α → PyData) (Pz : List α → Prop) (hi : KD M X iter σ F H P) (hP : ∀ m, P m → ∃ zs, m.map (·.1) = zs.map enc ∧ Pz zs) (Pv : List α → Nat → Hp → L2.St → Hp → Prop)
    (h0 : ∀ zs, Pz zs → ∀ F' H', Grow F H F' H' → Stt M.K F' H' σ env → Pv zs 0 F' σ H')
    (hs : ∀ zs, Pz zs → ∀ i z v F' σ' H', zs[i]? = some z → Same F F' → Same F' H' → Pv zs i F' σ' H' → Dn M.K F' v (enc z) → WS X body { D with nx := Nx (Pv zs (i + 1)) F', ct := Nx (Pv zs (i + 1)) F', bk := D.nx } (σ'.set j (some v)) H')
    (hd : ∀ zs, Pz zs → ∀ F' σ' H', Same F F' → Same F' H' → Pv zs zs.length F' σ' H' → D.nx σ' H') (hl : locB sc x = true := by decide +kernel) (hf : ∀ x, foldedSetIterable iter X.env x = pure x := by intro _; rfl) : W1 X (.For (.Name x tp) iter body [] pos) D σ H := by
  have hx : L2.Loc X.env.scope x := by
    rw [o.eS]
    exact loc_of hl
  have hG : PG X (.Name x tp) (gName j) := pg_name (by rw [o.eN]; exact o.nd) (by rw [o.eN]; exact hN.get) hx (.inl (fs.fn x))
  refine W1.of (ps_for o.pass o.calm (pi_dk WE.pe) hG WS.ps hf) ?_
  show iDk X.w (WE X iter) σ H _
  refine hi.run F H (Grow.refl S.le) _ fun m a F1 H2 hm g1 hF1 hH1 dk => ?_
  obtain ⟨zs, hmz, hPz⟩ := hP m hm
  obtain ⟨ob, xs, h1, h2, h3⟩ := dk.ex
  have hxl' : xs.length = zs.length := by
    have := congrArg List.length hmz
    rw [List.length_map, List.length_map] at this
    rw [h3.len, this]
  have g2 : Grow F H (upd F1 a (obO a ob)) H2 := g1.fix (o := obO a ob) hF1 hH1 h1
  have s2 := h3.mono (same_under (u := obO a ob) hF1)
  revert s2 g2
  generalize hF2 : upd F1 a (obO a ob) = F2
  intro g2 s2
  have ha : F2 a = some (obO a ob) := by rw [← hF2]; exact upd_same
  refine ⟨a, ob, xs, rfl, h1, by rw [o.eW]; exact h2, dk.low, ?_⟩
  refine for_x (xs := xs) (fun i σ' H' => ∃ F', Same F2 F' ∧ Same F' H' ∧ Pv zs i F' σ' H') ⟨F2, Same.refl _, g2.le, h0 zs hPz F2 H2 g2 (S.grow g2)⟩ (fun i σ' H' _ pv => ?_) (fun i z σ' H' hz pv => ?_) (fun σ' H' pv => ?_)
  · obtain ⟨F', e1, e2, _⟩ := pv
    exact e2 _ _ (e1 _ _ ha)
  · obtain ⟨F', e1, e2, pv⟩ := pv
    obtain ⟨y, hy, r⟩ := ens_at s2 hmz hz
    have T := hs zs hPz i y _ F' σ' H' hy (g2.ex.trans e1) e2 pv (r.mono e1)
    refine ⟨fun pins s I => thn (T.run pins s I) fun f s1 q => ?_⟩
    cases f with
    | next =>
      obtain ⟨σ3, H3, I3, F3, c1, c2, P3⟩ := q
      exact ⟨σ3, H3, I3, F3, e1.trans c1, c2, P3⟩
    | cont =>
      obtain ⟨σ3, H3, I3, F3, c1, c2, P3⟩ := q
      exact ⟨σ3, H3, I3, F3, e1.trans c1, c2, P3⟩
    | brk => exact q
    | ret u => exact q
  · obtain ⟨F', e1, e2, pv⟩ := pv
    rw [hxl'] at pv
    exact hd zs hPz F' σ' H' (g2.ex.trans e1) e2 pv
/-- [elt for x in a dict if ..] -/
theorem s_lcI {ifs : List Expr} (o : Ok M X N sc k) (own : List (Str × Nat)) (j : Nat) (enc : α → PyData) (Pz : List α → Prop) (f : α → Bool) (g : α → PyData)
    (hi : KI M X iter σ F H P) (hP : ∀ m, P m → ∃ zs, m.map (·.1) = zs.map enc ∧ zs.length < 100000 ∧ Pz zs) (ok : blkC N sc scope own = true) (hj : j ∈ own.map (·.2)) (hx : N[j]? = some x) (hxl : (relS scope sc).names.lookup x = some .local)
    (ifs1 : ifs = [] ∨ ∃ c, ifs = [c])
    (ht : ∀ zs, Pz zs → ∀ z, z ∈ zs → ∀ v F1 H1, Grow F H F1 H1 → Dn M.K F1 v (enc z) → Blk M X N sc scope k ifs elt ((wipe σ (own.map (·.2))).set j (some v)) F1 H1 (f z) (g z)) (hp : ifs = [] → ∀ z, f z = true)
    (hs : ∀ x, foldedSetIterable iter X.env x = pure x := by intro _; rfl) : XS M X (.ListComp elt [⟨.Name x tp, iter, ifs, 0⟩] scope pos) σ F H (fun d => ∃ zs, Pz zs ∧ d = .list (kept zs f g)) := by
  obtain ⟨tt, htt⟩ := tt_of (X := X) (scope := scope) ifs1
  have okB : BlkOk X.N X.env.scope scope own := by
    rw [o.eN, o.eS]
    exact blkOk_by ok
  refine ⟨fun F1 H1 gr Q q => ?_⟩
  refine WE.of (pe_lc o.calm (by rw [o.eN]; exact o.nd) (pi_dk WE.pe) okB (lc_target o hx hxl) htt.pts BE.pe hs) ?_
  show iDk X.w (WE X iter) σ H1 _
  refine hi.run F1 H1 gr _ fun m a F2 H2 hm g2 dk => ?_
  obtain ⟨zs, hmz, hlen, hPz⟩ := hP m hm
  obtain ⟨ob, xs, h1, h2, h3⟩ := dk.ex
  have hxl' : xs.length = zs.length := by
    have := congrArg List.length hmz
    rw [List.length_map, List.length_map] at this
    rw [h3.len, this]
  refine ⟨a, ob, xs, rfl, h1, by rw [o.eW]; exact h2, dk.low, fun B hB => ?_⟩
  refine lc_x (xs := xs) (fun i H' => LcP M.K F2 H2 B (kept (zs.take i) f g) H') ?_ (fun i H' _ pv => ?_) (fun i z H' hz' pv => ?_) (fun H' pv => ?_)
  · exact ⟨F2, [], Grow.own g2.le hB, g2.le.free hB, hB, upd_same, .nil⟩
  · obtain ⟨F', us, g', _⟩ := pv
    exact g'.kp _ _ h1
  · obtain ⟨y, e2, r1⟩ := ens_at h3 hmz hz'
    have hmem : y ∈ zs := List.mem_of_getElem? e2
    have T := lc_turn (F := F2) (H := H2) (σ := σ) (b := f y) (e := g y) (v := .ref z.2.1) (H' := H') (D := B) (ix := i) o htt hj pv (Nat.lt_of_le_of_lt (kept_len _ _ _) (Nat.lt_of_le_of_lt (by rw [List.length_take]; exact Nat.min_le_right _ _) hlen)) (fun _ => r1)
      (fun F3 H3 g3 => ht zs hPz y hmem _ F3 H3 ((gr.trans g2).trans g3) (r1.mono g3.ex)) (fun h => hp h y) g2.le
    rw [← kept_snoc, ← take_snoc e2] at T
    exact T
  · rw [hxl', List.take_length] at pv
    obtain ⟨F', us, g', c1, c2, c3, r⟩ := pv
    have gG := (g2.trans g').fix (o := .lst us) c1 (g2.kp.free c2) c3
    exact q _ _ _ H' ⟨zs, hPz, rfl⟩ gG (.lst upd_same (r.mono (same_under c1)))
end
end Lay

/-! Tur: the turns of a cell are a group; how many. -/
namespace Bfs
open Flo Die Sta
theorem next_any {f : Rows} {p q : P2} {l m : L3} {c : Nat} (h : next f (p, l) c = some (q, m)) : m = roll l c ∧ ∀ l', next f (p, l') c = some (q, roll l' c) := by
  unfold next at h ⊢
  cases hs : stepC c with
  | none => rw [hs] at h; cases h
  | some d =>
    rw [hs] at h
    simp only at h ⊢
    split at h
    · rename_i hc
      cases h
      exact ⟨rfl, fun l' => if_pos hc⟩
    · cases h
theorem walk_any {f : Rows} : ∀ (cs : List Nat) {p q : P2} {l m : L3}, walk f (p, l) cs = some (q, m) → m = rolled l cs ∧ ∀ l', walk f (p, l') cs = some (q, rolled l' cs)
  | [], p, q, l, m, h => by
    have := Option.some.inj h
    cases this
    exact ⟨rfl, fun l' => rfl⟩
  | c :: cs, p, q, l, m, h => by
    have h : ((next f (p, l) c).bind fun t => walk f t cs) = some (q, m) := h
    cases hn : next f (p, l) c with
    | none => rw [hn] at h; cases h
    | some t =>
      obtain ⟨r, k⟩ := t
      rw [hn] at h
      obtain ⟨e1, a1⟩ := next_any hn
      obtain ⟨e2, a2⟩ := walk_any cs (show walk f (r, k) cs = some (q, m) from h)
      refine ⟨by rw [e2, e1]; rfl, fun l' => ?_⟩
      show ((next f (p, l') c).bind fun t => walk f t cs) = _
      rw [a1 l']
      exact a2 _
/-- from any lie by the same rolls -/
theorem Goes.turn {f : Rows} {p q : P2} {l m : L3} {n : Nat} (h : Goes f (p, l) (q, m) n) : ∃ t, Goes f (p, first) (q, t) n ∧ m = beh l t ∧ isLie t = true := by
  obtain ⟨cs, h1, h2⟩ := h
  obtain ⟨e, a⟩ := walk_any cs h2
  exact ⟨rolled first cs, ⟨cs, h1, a first⟩, by rw [e, rolled_beh], rolled_right cs first_right⟩
theorem Goes.left {f : Rows} {p q : P2} {t : L3} {n : Nat} (l : L3) (h : Goes f (p, first) (q, t) n) : Goes f (p, l) (q, beh l t) n := by
  obtain ⟨cs, h1, h2⟩ := h
  obtain ⟨e, a⟩ := walk_any cs h2
  refine ⟨cs, h1, ?_⟩
  rw [a l, e, rolled_beh]
theorem beh_right {l t : L3} (hl : isLie l = true) (ht : isLie t = true) : isLie (beh l t) = true := by
  have h : (lies24.all fun l => lies24.all fun t => isLie (beh l t)) = true := by decide +kernel
  rw [← mem_lies, lies_eq] at hl ht
  exact List.all_eq_true.mp (List.all_eq_true.mp h l hl) t ht
theorem beh_assoc {a b c : L3} (ha : isLie a = true) (hb : isLie b = true) (hc : isLie c = true) : beh (beh a b) c = beh a (beh b c) := by
  have h : (lies24.all fun a => lies24.all fun b => lies24.all fun c => decide (beh (beh a b) c = beh a (beh b c))) = true := by decide +kernel
  rw [← mem_lies, lies_eq] at ha hb hc
  exact of_decide_eq_true (List.all_eq_true.mp (List.all_eq_true.mp (List.all_eq_true.mp h a ha) b hb) c hc)
theorem beh_left {l t m : L3} (hl : isLie l = true) (ht : isLie t = true) (hm : isLie m = true) (e : beh l t = beh l m) : t = m := by
  have h : (lies24.all fun a => lies24.all fun b => lies24.all fun c => (!decide (beh a b = beh a c) || decide (b = c))) = true := by decide +kernel
  rw [← mem_lies, lies_eq] at hl ht hm
  have := List.all_eq_true.mp (List.all_eq_true.mp (List.all_eq_true.mp h l hl) t ht) m hm
  rw [decide_eq_true e] at this
  exact of_decide_eq_true this
theorem beh_comm {g w : L3} (hg : isLie g = true) (hw : isLie w = true) (e : beh g w = first) : beh w g = first := by
  have h : (lies24.all fun a => lies24.all fun b => (!decide (beh a b = first) || decide (beh b a = first))) = true := by decide +kernel
  rw [← mem_lies, lies_eq] at hg hw
  have := List.all_eq_true.mp (List.all_eq_true.mp h g hg) w hw
  rw [decide_eq_true e] at this
  exact of_decide_eq_true this
/-! ### a place's turns -/
theorem stand_first {f : Rows} {p : P2} (hp : isCell f p = true) : isStand f (p, first) := ⟨hp, first_right⟩
theorem ends_right {f : Rows} {s : Sd} (hs : isStand f s) {q : P2} {t : L3} (h : t ∈ endsL f s q) : isLie t = true := by
  obtain ⟨n, hn⟩ := (mem_endsL hs).mp h
  exact (goes_stand hs hn).2
section
variable {f : Rows} {p : P2} (hp : isCell f p = true)
include hp
theorem turns_first : first ∈ endsL f (p, first) p := (mem_endsL (stand_first hp)).mpr ⟨0, Goes.nil f _⟩
theorem turns_beh {t u : L3} (ht : t ∈ endsL f (p, first) p) (hu : u ∈ endsL f (p, first) p) : beh t u ∈ endsL f (p, first) p := by
  have hs := stand_first hp
  obtain ⟨n, hn⟩ := (mem_endsL hs).mp ht
  obtain ⟨k, hk⟩ := (mem_endsL hs).mp hu
  exact (mem_endsL hs).mpr ⟨n + k, hn.trans (hk.left t)⟩
theorem turns_inv {t : L3} (ht : t ∈ endsL f (p, first) p) : ∃ u, u ∈ endsL f (p, first) p ∧ beh t u = first := by
  have hs := stand_first hp
  obtain ⟨n, hn⟩ := (mem_endsL hs).mp ht
  obtain ⟨u, h1, h2, _⟩ := (hn.back hs).turn
  exact ⟨u, (mem_endsL hs).mpr ⟨n, h1⟩, h2.symm⟩
end
/-- goes evenly into a list that it leads into itself -/
theorem goes_into {H : List L3} (hn : H.Nodup) (hr : ∀ h ∈ H, isLie h = true) (h1 : first ∈ H) (hm : ∀ a ∈ H, ∀ b ∈ H, beh a b ∈ H) (hi : ∀ a ∈ H, ∃ b, b ∈ H ∧ beh a b = first) :
    ∀ (n : Nat) (K : List L3), K.length = n → K.Nodup → (∀ k ∈ K, isLie k = true) → (∀ k ∈ K, ∀ h ∈ H, beh k h ∈ K) → H.length ∣ n := by
  intro n
  induction n using Nat.strongRecOn with
  | ind n ih =>
    intro K hl hK hKr hKm
    cases hK0 : K with
    | nil =>
      rw [hK0] at hl
      rw [← hl]
      exact ⟨0, rfl⟩
    | cons k K1 =>
      have hk : k ∈ K := by rw [hK0]; exact List.mem_cons_self
      have hkr := hKr k hk
      let C : List L3 := H.map (beh k)
      have hC : C.Nodup := by
        refine List.pairwise_map.mpr ?_
        refine hn.imp_of_mem fun {a b} ha hb hab e => hab (beh_left hkr (hr a ha) (hr b hb) e)
      have hCK : ∀ x ∈ C, x ∈ K := fun x hx => by
        obtain ⟨h, hh, rfl⟩ := List.mem_map.mp hx
        exact hKm k hk h hh
      let R : List L3 := K.filter fun x => decide (x ∉ C)
      have hR : R.Nodup := hK.filter _
      have perm : (C ++ R).Perm K := by
        refine nodup_perm ?_ hK fun x => ?_
        · rw [List.nodup_append]
          refine ⟨hC, hR, fun a ha b hb e => ?_⟩
          subst e
          have := (List.mem_filter.mp hb).2
          exact of_decide_eq_true this ha
        · rw [List.mem_append, List.mem_filter, decide_eq_true_eq]
          constructor
          · rintro (h | h)
            · exact hCK x h
            · exact h.1
          · intro h
            by_cases hc : x ∈ C
            · exact .inl hc
            · exact .inr ⟨h, hc⟩
      have hlen := perm.length_eq
      rw [List.length_append, show C.length = H.length from List.length_map _, hl] at hlen
      have hpos : 0 < H.length := List.length_pos_of_mem h1
      obtain ⟨c, hc⟩ := ih R.length (by omega) R rfl hR (fun x hx => hKr x (List.mem_filter.mp hx).1) fun x hx h hh => by
        obtain ⟨hx1, hx2⟩ := List.mem_filter.mp hx
        rw [decide_eq_true_eq] at hx2
        refine List.mem_filter.mpr ⟨hKm x hx1 h hh, ?_⟩
        rw [decide_eq_true_eq]
        intro hin
        obtain ⟨g, hg, e⟩ := List.mem_map.mp hin
        obtain ⟨h', hh', e'⟩ := hi h hh
        refine hx2 (List.mem_map.mpr ⟨beh g h', hm g hg h' hh', ?_⟩)
        rw [← beh_assoc hkr (hr g hg) (hr h' hh'), e, beh_assoc (hKr x hx1) (hr h hh) (hr h' hh'), e', beh_first]
      exact ⟨c + 1, by rw [Nat.mul_add, Nat.mul_one, ← hc]; omega⟩
/-! ### even rows -/
theorem next_par {f : Rows} {s t : Sd} {c : Nat} (h : next f s c = some t) : (t.1.1 + t.1.2) % 2 = (s.1.1 + s.1.2 + 1) % 2 := by
  have hc := next_letter h
  unfold next at h
  simp only [List.mem_cons, List.not_mem_nil, or_false] at hc
  cases hd : stepC c with
  | none => rw [hd] at h; cases h
  | some d =>
    rw [hd] at h
    simp only at h
    split at h
    · cases h
      have : d = (0, 1) ∨ d = (-1, 0) ∨ d = (1, 0) ∨ d = (0, -1) := by
        rcases hc with rfl | rfl | rfl | rfl
        · exact .inl (Option.some.inj hd).symm
        · exact .inr (.inl (Option.some.inj hd).symm)
        · exact .inr (.inr (.inl (Option.some.inj hd).symm))
        · exact .inr (.inr (.inr (Option.some.inj hd).symm))
      rcases this with rfl | rfl | rfl | rfl <;> simp only <;> omega
    · cases h
theorem goes_par {f : Rows} {s : Sd} : ∀ {n : Nat} {t : Sd}, Goes f s t n → (t.1.1 + t.1.2) % 2 = (s.1.1 + s.1.2 + (n : Int)) % 2
  | 0, t, h => by
    rw [h.zero]
    simp
  | n + 1, t, h => by
    obtain ⟨u, c, h1, h2⟩ := h.pred
    have := goes_par h1
    have := next_par h2
    omega
theorem goes_dis {f : Rows} {p q : P2} {l m : L3} (hl : isLie l = true) {n : Nat} (h : Goes f (p, l) (q, m) n) : dis (prs m) = (dis (prs l) + (n : Int)) % 2 := by
  obtain ⟨cs, h1, h2⟩ := h
  obtain ⟨e, _⟩ := walk_any cs h2
  rw [e, dis_rolled cs hl, h1]
def evens : List L3 := lies24.filter fun l => decide (dis (prs l) = 0)
theorem mem_evens {l : L3} : l ∈ evens ↔ isLie l = true ∧ dis (prs l) = 0 := by
  unfold evens
  rw [List.mem_filter, decide_eq_true_eq, ← lies_eq, mem_lies]
theorem turns_twelve {f : Rows} {p : P2} (hp : isCell f p = true) : (endsL f (p, first) p).length ∣ 12 := by
  have hs := stand_first hp
  have hr : ∀ h ∈ endsL f (p, first) p, isLie h = true := fun h hh => ends_right hs hh
  refine goes_into (endsL_nodup f _ p) hr (turns_first hp) (fun a ha b hb => turns_beh hp ha hb) (fun a ha => turns_inv hp ha) 12 evens (by decide +kernel) (lies24_nodup.filter _) (fun k hk => (mem_evens.mp hk).1) fun k hk h hh => ?_
  obtain ⟨hk1, hk2⟩ := mem_evens.mp hk
  obtain ⟨n, hn⟩ := (mem_endsL hs).mp hh
  have h0 := goes_par hn
  have h1 := goes_dis hk1 (hn.left k)
  exact mem_evens.mpr ⟨beh_right hk1 (hr h hh), by simp only at h0; omega⟩
/-! ### as many ways -/
theorem ends_len {f : Rows} {p q : P2} (hp : isCell f p = true) {l : L3} (hl : isLie l = true) : (endsL f (p, l) q).length = (endsL f (p, first) q).length := by
  have hs := stand_first hp
  have hs2 : isStand f (p, l) := ⟨hp, hl⟩
  have h : ((endsL f (p, first) q).map (beh l)).Perm (endsL f (p, l) q) := by
    refine nodup_perm ?_ (endsL_nodup f _ q) fun x => ?_
    · refine List.pairwise_map.mpr ?_
      exact (endsL_nodup f _ q).imp_of_mem fun {a b} ha hb hab e => hab (beh_left hl (ends_right hs ha) (ends_right hs hb) e)
    · rw [List.mem_map, mem_endsL hs2]
      constructor
      · rintro ⟨t, ht, rfl⟩
        obtain ⟨n, hn⟩ := (mem_endsL hs).mp ht
        exact ⟨n, hn.left l⟩
      · rintro ⟨n, hn⟩
        obtain ⟨t, h1, h2, _⟩ := hn.turn
        exact ⟨t, (mem_endsL hs).mpr ⟨n, h1⟩, h2.symm⟩
  have := h.length_eq
  rw [List.length_map] at this
  exact this.symm
theorem turns_there {f : Rows} {p q : P2} (hp : isCell f p = true) {g : L3} {n : Nat} (hg : Goes f (p, first) (q, g) n) : (endsL f (p, first) q).length = (endsL f (p, first) p).length ∧ (endsL f (q, first) q).length = (endsL f (p, first) p).length := by
  have hs := stand_first hp
  have hqs := goes_stand hs hg
  have hq : isCell f q = true := hqs.1
  have hgr : isLie g = true := hqs.2
  have hs2 := stand_first hq
  obtain ⟨w, hw, e, hwr⟩ := (hg.back hs).turn
  have e1 : beh g w = first := e.symm
  have e2 := beh_comm hgr hwr e1
  have a : ((endsL f (p, first) p).map fun t => beh t g).Perm (endsL f (p, first) q) := by
    refine nodup_perm ?_ (endsL_nodup f _ q) fun x => ?_
    · refine List.pairwise_map.mpr ?_
      exact (endsL_nodup f _ p).imp_of_mem fun {a b} ha hb hab e => hab (beh_inj hgr (ends_right hs ha) (ends_right hs hb) e)
    · rw [List.mem_map, mem_endsL hs]
      constructor
      · rintro ⟨t, ht, rfl⟩
        obtain ⟨k, hk⟩ := (mem_endsL hs).mp ht
        exact ⟨k + n, hk.trans (hg.left t)⟩
      · rintro ⟨k, hk⟩
        have hx := (goes_stand hs hk).2
        refine ⟨beh x w, (mem_endsL hs).mpr ⟨k + n, hk.trans (hw.left x)⟩, ?_⟩
        rw [beh_assoc hx hwr hgr, e2, beh_first]
  have b : ((endsL f (q, first) q).map fun t => beh g t).Perm (endsL f (p, first) q) := by
    refine nodup_perm ?_ (endsL_nodup f _ q) fun x => ?_
    · refine List.pairwise_map.mpr ?_
      exact (endsL_nodup f _ q).imp_of_mem fun {a b} ha hb hab e => hab (beh_left hgr (ends_right hs2 ha) (ends_right hs2 hb) e)
    · rw [List.mem_map, mem_endsL hs]
      constructor
      · rintro ⟨t, ht, rfl⟩
        obtain ⟨k, hk⟩ := (mem_endsL hs2).mp ht
        exact ⟨n + k, hg.trans (hk.left g)⟩
      · rintro ⟨k, hk⟩
        have hx := (goes_stand hs hk).2
        refine ⟨beh w x, (mem_endsL hs2).mpr ⟨n + k, hw.trans (hk.left w)⟩, ?_⟩
        rw [← beh_assoc hgr hwr hx, e1, first_beh hx]
  have a1 := a.length_eq
  have b1 := b.length_eq
  rw [List.length_map] at a1 b1
  exact ⟨a1.symm, b1.trans a1.symm⟩
end Bfs

/-! Fir: the firm cells, in order. -/
namespace Bfs
open Flo Die Sta
/-- one place before another -/
def bef (p q : P2) : Prop := p.1 < q.1 ∨ (p.1 = q.1 ∧ p.2 < q.2)
theorem cells_bef (f : Rows) : (cells f).Pairwise bef := by
  unfold cells
  rw [List.pairwise_flatMap]
  refine ⟨fun i _ => ?_, ?_⟩
  · refine List.pairwise_map.mpr ?_
    refine (List.pairwise_lt_range.filter _).imp fun {a b} h => ?_
    exact .inr ⟨rfl, by show (a : Int) < (b : Int); omega⟩
  · refine List.pairwise_lt_range.imp fun {a b} h x hx y hy => ?_
    obtain ⟨j, _, rfl⟩ := List.mem_map.mp hx
    obtain ⟨k, _, rfl⟩ := List.mem_map.mp hy
    exact .inl (by show (a : Int) < (b : Int); omega)
theorem bef_nodup {l : List P2} (h : l.Pairwise bef) : l.Nodup := h.imp fun {a b} h e => by
  subst e
  rcases h with h | ⟨_, h⟩ <;> omega
abbrev plst (p : P2) : List Int := [p.1, p.2]
theorem bef_le {p q : P2} (h : bef p q) : plst p ≤ plst q := by
  rw [List.cons_le_cons_iff, List.cons_le_cons_iff]
  rcases h with h | ⟨h1, h2⟩
  · exact .inl h
  · exact .inr ⟨h1, .inl h2⟩
theorem bef_up {l : List P2} (h : l.Pairwise bef) : (l.map plst).Pairwise (· ≤ ·) := List.pairwise_map.mpr (h.imp fun h => bef_le h)
/-- the tops at a place of these stands -/
def topsAt (zs : List Sd) (p : P2) : List Int := (zs.filter fun z => decide (z.1 = p)).map fun z => z.2.1
theorem topsAt_snoc (zs : List Sd) (z : Sd) (p : P2) : topsAt (zs ++ [z]) p = topsAt zs p ++ (if z.1 = p then [z.2.1] else []) := by
  unfold topsAt
  rw [List.filter_append, List.map_append, List.filter_cons]
  by_cases h : z.1 = p
  · rw [if_pos h, if_pos (decide_eq_true h)]
    rfl
  · rw [if_neg h, if_neg (by rw [decide_eq_false h]; exact Bool.false_ne_true)]
    rfl
theorem topsAt_nil {zs : List Sd} {p : P2} (h : ∀ z ∈ zs, z.1 ≠ p) : topsAt zs p = [] := by
  unfold topsAt
  rw [List.filter_eq_nil_iff.mpr fun z hz => by rw [decide_eq_true_eq]; exact h z hz]
  rfl
theorem mem_topsAt {zs : List Sd} {p : P2} {x : Int} : x ∈ topsAt zs p ↔ ∃ l : L3, (p, l) ∈ zs ∧ l.1 = x := by
  unfold topsAt
  rw [List.mem_map]
  constructor
  · rintro ⟨z, hz, rfl⟩
    obtain ⟨h1, h2⟩ := List.mem_filter.mp hz
    have e := of_decide_eq_true h2
    exact ⟨z.2, by rw [← e]; exact h1, rfl⟩
  · rintro ⟨l, h, rfl⟩
    exact ⟨(p, l), List.mem_filter.mpr ⟨h, decide_eq_true rfl⟩, rfl⟩
theorem topsAt_len {f : Rows} {zs : List Sd} (hn : zs.Nodup) (hs : ∀ z ∈ zs, isStand f z) (p : P2) : (topsAt zs p).length ≤ 24 := by
  have h : ((zs.filter fun z => decide (z.1 = p)).map (·.2)).Nodup := by
    refine List.pairwise_map.mpr ?_
    refine (hn.filter _).imp_of_mem fun {a b} ha hb hab e => hab ?_
    rw [List.mem_filter] at ha hb
    exact Prod.ext ((of_decide_eq_true ha.2).trans (of_decide_eq_true hb.2).symm) e
  have := nodup_le (u := lies24) h fun x hx => by
    obtain ⟨z, hz, rfl⟩ := List.mem_map.mp hx
    rw [← lies_eq]
    exact mem_lies.mpr (hs z (List.mem_filter.mp hz).1).2
  unfold topsAt
  rw [List.length_map] at this ⊢
  exact this
def oneOnly (ns : List Int) : Bool := !ns.isEmpty && ns.all fun x => decide (x = ns.getD 0 0)
theorem oneOnly_iff {ns : List Int} : oneOnly ns = true ↔ (∃ x, x ∈ ns) ∧ ∀ x ∈ ns, ∀ y ∈ ns, x = y := by
  unfold oneOnly
  cases ns with
  | nil => simp
  | cons z r =>
    rw [Bool.and_eq_true, List.all_eq_true]
    constructor
    · rintro ⟨_, h⟩
      refine ⟨⟨z, List.mem_cons_self⟩, fun x hx y hy => ?_⟩
      rw [of_decide_eq_true (h x hx), of_decide_eq_true (h y hy)]
    · rintro ⟨_, h⟩
      refine ⟨rfl, fun x hx => decide_eq_true (h x hx z List.mem_cons_self)⟩
def firmAt (f : Rows) (s : Sd) (p : P2) : Prop := (∃ l n, Goes f s (p, l) n) ∧ ∀ l m : L3, (∃ n, Goes f s (p, l) n) → (∃ n, Goes f s (p, m) n) → l.1 = m.1
theorem firm_iff {f : Rows} {s : Sd} {zs : List Sd} (hz : ∀ z, z ∈ zs ↔ ∃ n, Goes f s z n) (p : P2) : oneOnly (topsAt zs p) = true ↔ firmAt f s p := by
  rw [oneOnly_iff]
  constructor
  · rintro ⟨⟨x, hx⟩, h⟩
    obtain ⟨l, hl, _⟩ := mem_topsAt.mp hx
    obtain ⟨n, hn⟩ := (hz _).mp hl
    exact ⟨⟨l, n, hn⟩, fun l m h1 h2 => h l.1 (mem_topsAt.mpr ⟨l, (hz _).mpr h1, rfl⟩) m.1 (mem_topsAt.mpr ⟨m, (hz _).mpr h2, rfl⟩)⟩
  · rintro ⟨⟨l, n, hn⟩, h⟩
    refine ⟨⟨l.1, mem_topsAt.mpr ⟨l, (hz _).mpr ⟨n, hn⟩, rfl⟩⟩, fun x hx y hy => ?_⟩
    obtain ⟨a, ha, rfl⟩ := mem_topsAt.mp hx
    obtain ⟨b, hb, rfl⟩ := mem_topsAt.mp hy
    exact h a b ((hz _).mp ha) ((hz _).mp hb)
open Classical in
/-- the firm cells, in order -/
noncomputable def firmL (f : Rows) (s : Sd) : List P2 := (cells f).filter fun p => decide (firmAt f s p)
theorem firmL_up (f : Rows) (s : Sd) : ((firmL f s).map plst).Pairwise (· ≤ ·) := bef_up ((cells_bef f).filter _)
theorem map_iff {f : Rows} {s : Sd} {m : Mp} (h : IsMap f s m) (z : Sd) : z ∈ m.map (·.1) ↔ ∃ n, Goes f s z n := by
  constructor
  · intro hz
    obtain ⟨⟨t, n⟩, hm, rfl⟩ := List.mem_map.mp hz
    exact ⟨n, ((h.iff _ _).mp hm).1⟩
  · rintro ⟨n, hn⟩
    obtain ⟨k, _, hd⟩ := dist_of hn
    exact List.mem_map.mpr ⟨_, (h.iff _ _).mpr hd, rfl⟩
open Classical in
theorem firm_perm {f : Rows} {s : Sd} (hs : isStand f s) {zs : List Sd} (hz : ∀ z, z ∈ zs ↔ ∃ n, Goes f s z n) {ks : List P2} (hk : ks.Nodup) (hm : ∀ p, p ∈ ks ↔ ∃ z ∈ zs, z.1 = p) : (ks.filter fun p => oneOnly (topsAt zs p)).Perm (firmL f s) := by
  refine nodup_perm (hk.filter _) ((bef_nodup (cells_bef f)).filter _) fun p => ?_
  unfold firmL
  rw [List.mem_filter, List.mem_filter, decide_eq_true_eq, firm_iff hz, hm]
  constructor
  · rintro ⟨⟨z, h1, rfl⟩, h2⟩
    obtain ⟨n, hn⟩ := (hz z).mp h1
    exact ⟨mem_cells.mpr (goes_stand hs hn).1, h2⟩
  · rintro ⟨_, h2⟩
    obtain ⟨l, n, hn⟩ := h2.1
    exact ⟨⟨(p, l), (hz _).mpr ⟨n, hn⟩, rfl⟩, h2⟩
end Bfs

/-! Lay15: the sum of a tuple; dict(pairs); the least and the greatest. -/
namespace Lay
open PySem PySem.Spec PyProof.Rows PySem.W L2
section
variable {X : Cx}
def rSumT (K : PySem.W.Frag) : List V → Hp → VK → Prop := fun vs H Q => ∃ (a : Addr) (ns : List Int), vs = [V.ref a] ∧ SqT K H a (ns.map V.int) ∧ Q (.int ns.sum) H
theorem cr_sumT (hc : X.calm = true) : CallR X (.builtin "sum") (rSumT X.K) := by
  intro pins s σ H vs us Q I r h
  obtain ⟨a, ns, rfl, hs, q⟩ := h
  obtain ⟨its, rv, ht, _⟩ := I.tuple hs
  rw [Vals.ref1 r]
  have hi := rv.ints
  obtain ⟨xs, e⟩ := hi.allInts.items
  have hn : numsOf its.toArray.toList = ns := hi.numsOf
  rw [e, nums_intItems] at hn
  rw [e] at ht
  refine ktm_sumG (I.ok.hd hc) ht fun h' tk t' hk => ?_
  rw [preSum_eq, List.take_of_length_le (by simp), hn]
  exact ⟨.int _, H, I.kept hk, ⟨_, rfl⟩, q⟩
/-- the pairs, told by their places -/
theorem pairs_at {K : PySem.W.Frag} {pins : List (Addr × Obj)} {σ : L2.St} {H F : Hp} {s : Shared} (hK : K = X.K) (I : Inv X pins σ H s) (le : Same F H) : ∀ {ms : List (PyData × PyData)} {xs : List V} {its : List Value}, (∀ p ∈ ms, keyD p.1) → Dns K F xs (ms.map fun p => .tuple [p.1, p.2]) → Vals xs its →
    ∃ (ts : List Addr) (kx : List KX), its = ts.map Value.ref ∧ ts.length = kx.length ∧ (∀ (j : Nat) (k v : Value), (kx.map fun x => ((.ref x.2.1, x.2.2) : Value × Value))[j]? = some (k, v) → ∃ T : Addr, ts[j]? = some T ∧ PairAt s.heap T k v) ∧ Ens K F kx ms
  | [], _, _, _, .nil, .nil => ⟨[], [], rfl, rfl, fun j k v h => by simp at h, .nil⟩
  | p :: ms, x :: xs, u :: its, hk, .cons hd ht, .cons rv rt => by
    obtain ⟨ts, kx, e1, e2, e3, e4⟩ := pairs_at hK I le (fun q hq => hk q (List.mem_cons_of_mem _ hq)) ht rt
    have hd0 := hd
    cases hd with
    | tup h d =>
      rename_i T vs
      cases rv
      cases d with
      | cons dk d =>
        cases d with
        | cons dv d =>
          cases d
          rename_i v1 v2
          obtain ⟨it2, rv2, ht2, _⟩ := I.tuple (sqt_mono le (by rw [hK] at h; exact h))
          cases rv2 with
          | cons r1 rr =>
            cases rr with
            | cons r2 rr =>
              cases rr
              rename_i u1 u2
              have hkp := hk p List.mem_cons_self
              obtain ⟨b, rfl, rfl, _⟩ := key_at I le hkp (by rw [hK] at dk; exact dk) r1
              refine ⟨T :: ts, (keyOf p.1, b, u2) :: kx, by rw [e1]; rfl, by rw [List.length_cons, List.length_cons, e2], ?_, .cons rfl hkp.1 hkp.2.1 dk r2 dv e4⟩
              intro j k v hj
              cases j with
              | zero =>
                have : ((.ref b, u2) : Value × Value) = (k, v) := by simpa using hj
                cases this
                exact ⟨T, rfl, .inl ht2⟩
              | succ j =>
                obtain ⟨T', h1, h2⟩ := e3 j k v (by simpa using hj)
                exact ⟨T', by simpa using h1, h2⟩
def rDictK (K : PySem.W.Frag) (w : World) : List V → Hp → VK → Prop := fun vs H Q => ∃ (F : Hp) (a : Addr) (ms : List (PyData × PyData)), vs = [V.ref a] ∧ Same F H ∧ Dn K F (.ref a) (.list (ms.map fun p => .tuple [p.1, p.2])) ∧ (∀ p ∈ ms, keyD p.1) ∧ (ms.map fun p => keyOf p.1).Nodup ∧ ms.length ≤ 100000 ∧
  ∀ q o, H q = none → Dk K w F (upd H q (obO q o)) q ms → Q (.ref q) (upd H q (obO q o))
theorem cr_dictK (hc : X.calm = true) (hu : X.A.units + 64 < cLine) : CallR X (.type "dict") (rDictK X.K X.w) := by
  intro pins s σ H vs us Q I r h
  obtain ⟨F, a, ms, rfl, le, hd, hk, hn, hz, q⟩ := h
  rw [Vals.ref1 r]
  cases hd with
  | lst hl ds =>
    rename_i xs
    obtain ⟨its, rv, ⟨o, n, ho, hoc, hod, hdat⟩, _⟩ := I.list (SqL.of (le _ _ hl))
    obtain ⟨ts, kx, e1, e2, e3, e4⟩ := pairs_at rfl I le hk ds rv
    have hlen : kx.length = ms.length := e4.len
    let ps : List (Value × Value) := kx.map fun x => (.ref x.2.1, x.2.2)
    have hpl : ps.length = kx.length := List.length_map _
    have ok : PlainSeq "list" s.heap a its.toArray ∧ PairItems s.heap its.toArray (fun j => ts.getD j 0) ps := by
      refine ⟨⟨o, n, ho, hoc, hod, hdat⟩, ?_, fun j k v hj => ?_⟩
      · rw [List.size_toArray, e1, List.length_map, e2, hpl]
      · obtain ⟨T, h1, h2⟩ := e3 j k v hj
        have : ts.getD j 0 = T := by rw [List.getD_eq_getElem?_getD, h1]; rfl
        refine ⟨?_, by show PairAt s.heap (ts.getD j 0) k v; rw [this]; exact h2⟩
        show its.toArray[j]? = some (Value.ref (ts.getD j 0))
        rw [this, List.getElem?_toArray, e1, List.getElem?_map, h1]
        rfl
    refine call_dict_pairsH (knd := nestedKind X.prog X.w) (ps := kx) (PairArg.list a its.toArray (fun j => ts.getD j 0) ps) (I.ok.hd hc) (by show X.A.units + 1 + 1 + 8 < cLine; omega) ok ⟨hpl.symm, fun i key v hr => ?_⟩ (fun h' hk' x hx => ?_) (by rw [hpl, hlen]; exact Nat.le_trans hz (by decide)) fun h' tk hd' hk' => ?_
    · have hr : (kx.map fun x => ((.ref x.2.1, x.2.2) : Value × Value))[i]? = some (key, v) := hr
      rw [List.getElem?_map] at hr
      cases hx : kx[i]? with
      | none => rw [hx] at hr; cases hr
      | some x =>
        rw [hx] at hr
        have : ((.ref x.2.1, x.2.2) : Value × Value) = (key, v) := Option.some.inj hr
        cases this
        exact ⟨x.1, x.2.1, rfl, rfl⟩
    · exact nestedKind_stays.stays (fun b ob vs n hb _ => hk' b ob (Nat.ne_of_lt (Heap.lt_size hb)) (by simp) hb) (ens_is I le e4 x hx)
    · rw [storedAllH_nil_of_nodup kx (by rw [ens_keys e4]; exact hn)] at hd'
      obtain ⟨ob, es, ep, hob, hx, hdt, hes, _, hnd⟩ := hd'
      have low : (s.heap.objs.size == sysModules) = false := beq_false_of_ne (Nat.ne_of_gt I.big)
      refine ⟨.ref s.heap.objs.size, _, I.laid (t' := tk) (o := obO s.heap.objs.size ob) (fun b o e => hk' b o (by simp) e) (Nat.le_refl _) (ob_ok hob), rfl, q _ ob (I.hok.fresh (Nat.le_refl _)) ⟨⟨ob, kx, upd_same, ⟨hx, ⟨es, ep, hdt, hes⟩, hnd⟩, e4⟩, low⟩⟩
end
section
variable {M : Md} {X : Cx} {N : List Str} {sc scope : Scope} {k j i : Nat} {σ : L2.St} {env : List (Option PyData)} {F0 H0 F H : Hp} {d e' e0 : PyData} {ds : List PyData} {m : List (PyData × PyData)} {e a b iter elt : Expr} {es : List Expr} {body : List Stmt} {D : Ends} {pos p np p2 tp ap q : Pos} {x : Str} {l : Addr} {Q : VK} {E : XK} {P : List (PyData × PyData) → Prop} {R : List PyData → Out → Prop} {C : CXT} {α : Type}
theorem x_sumT {ns : List Int} (o : Ok M X N sc k) (hm : M.mg "sum" = none) (ha : XH M X e σ F H (.tuple (ns.map PyData.int))) (hg : sc.names.lookup ("sum" : Str) = some .globalImplicit := by decide +kernel)
    (he : starEach [e] X.env = (false, eval e X.env) :: starEach [] X.env := by rfl) (hpl : (backTo pos (starEach [] X.env)).any (·.1) = false := by rfl) : XD M X (.Call (.Name "sum" p) [e] [] pos) σ F H (.int ns.sum) :=
  x_callBh o.toOk0 (cr_sumT o.calm) hm PyProof.Rows.boot_sum ha (fun v F1 H1 g r Q q => by
    cases r with
    | tup h s =>
      have ev := dns_int_inv s
      subst ev
      exact ⟨_, ns, rfl, by rw [o.eK]; exact h, q _ F1 H1 (Grow.refl g.le) (.int _)⟩) hg (by decide +kernel) (by decide +kernel) he hpl
/-- dict(a list of pairs) -/
theorem k_dict {ms : List (PyData × PyData)} (o : Ok M X N sc k) (hm : M.mg "dict" = none) (ha : XD M X e σ F H (.list (ms.map fun p => .tuple [p.1, p.2]))) (hk : ∀ p ∈ ms, keyD p.1) (hn : (ms.map fun p => keyOf p.1).Nodup) (hz : ms.length ≤ 100000) (hg : sc.names.lookup ("dict" : Str) = some .globalImplicit)
    (he : starEach (e :: []) X.env = (false, eval e X.env) :: starEach [] X.env := by rfl) (hpl : (backTo pos (starEach [] X.env)).any (·.1) = false := by rfl) : KD M X (.Call (.Name "dict" p) [e] [] pos) σ F H (fun m => m = ms) := by
  refine ⟨fun F1 H1 g Q q => ?_⟩
  refine WE.of (pe_callTy (cr_dictK o.calm (by have := o.room.un; omega)) (gl_of o.toOk0 hg) (by rw [o.eG]; exact hm) PyProof.Rows.boot_dict (pa_cons WE.pe pa_nil he) (by decide +kernel) (by decide +kernel) he hpl) ?_
  refine ha.run F1 H1 g _ fun v F2 H2 g2 r2 => ?_
  cases r2 with
  | lst hl s =>
    refine ⟨F2, _, ms, rfl, g2.le, by rw [o.eK]; exact .lst hl s, hk, hn, hz, fun q' ob hq dk => ?_⟩
    rw [o.eK, o.eW] at dk
    exact q ms q' F2 _ rfl (g2.trans (Grow.own g2.le hq)) (g2.le.free hq) (g2.kp.free hq) dk
/-- the least, the greatest of a list of whole numbers -/
theorem x_max {ns : List Int} {z : Int} (o : Ok M X N sc k) (hm : M.mg "max" = none) (ha : XH M X e σ F H (.list (ns.map PyData.int))) (h1 : z ∈ ns) (h2 : ∀ y ∈ ns, y ≤ z) (hg : sc.names.lookup ("max" : Str) = some .globalImplicit := by decide +kernel)
    (he : starEach [e] X.env = (false, eval e X.env) :: starEach [] X.env := by rfl) (hpl : (backTo pos (starEach [] X.env)).any (·.1) = false := by rfl) : XD M X (.Call (.Name "max" p) [e] [] pos) σ F H (.int z) :=
  x_callBh o.toOk0 (cr_max o.calm) hm PyProof.Rows.boot_max ha (fun v F1 H1 g r Q q => by
    cases r with
    | lst h s =>
      have ev := dns_int_inv s
      subst ev
      refine ⟨_, ns, rfl, SqL.of h, List.length_pos_of_mem h1, fun m a b => ?_⟩
      have : m = z := Int.le_antisymm (h2 m a) (b z h1)
      rw [this]
      exact q _ F1 H1 (Grow.refl g.le) (.int _)) hg (by decide +kernel) (by decide +kernel) he hpl
theorem x_min {ns : List Int} {z : Int} (o : Ok M X N sc k) (hm : M.mg "min" = none) (ha : XH M X e σ F H (.list (ns.map PyData.int))) (h1 : z ∈ ns) (h2 : ∀ y ∈ ns, z ≤ y) (hg : sc.names.lookup ("min" : Str) = some .globalImplicit := by decide +kernel)
    (he : starEach [e] X.env = (false, eval e X.env) :: starEach [] X.env := by rfl) (hpl : (backTo pos (starEach [] X.env)).any (·.1) = false := by rfl) : XD M X (.Call (.Name "min" p) [e] [] pos) σ F H (.int z) :=
  x_callBh o.toOk0 (cr_min o.calm) hm PyProof.Rows.boot_min ha (fun v F1 H1 g r Q q => by
    cases r with
    | lst h s =>
      have ev := dns_int_inv s
      subst ev
      refine ⟨_, ns, rfl, SqL.of h, List.length_pos_of_mem h1, fun m a b => ?_⟩
      have : m = z := Int.le_antisymm (b z h1) (h2 m a)
      rw [this]
      exact q _ F1 H1 (Grow.refl g.le) (.int _)) hg (by decide +kernel) (by decide +kernel) he hpl
end
end Lay

/-! Lay16: two dicts with the same keys and numbers are not unlike; isinstance of one's own dict; clear. -/
namespace Lay
open PySem PySem.Spec PySem.Calls PyProof.Rows PySem.W L2
section
variable {P : Program} {w : World} {A : Around} {s : Shared} {E : Value → Shared → Prop}
/-- all entries of the one stand in the other, and they are as many -/
theorem same_maps {nm : String} {a b : Addr} {xa xb : List KX} {Q : Bool → Shared → Prop} (fa : (a == sysModules) = false) (fb : (b == sysModules) = false) (da : s.heap.DictOfH (nestedKind P w) a xa) (db : s.heap.DictOfH (nestedKind P w) b xb) (room : (nestedKind P w).room A) (many : xa.length = xb.length)
    (hits : ∀ x ∈ xa, ∃ (c : Addr) (n : Int) (t t' : Tok), x.2.2 = .int n t ∧ atKey xb x.1 = some (c, .int n t')) (yes : Q true s) : wpAny (model P w) A (Builtin.Dict.samePairs nm a b) Q E s := by
  obtain ⟨o1, e1, p1, at1, _, dt1, en1, is1, nd1⟩ := da
  obtain ⟨o2, e2, p2, at2, _, dt2, en2, is2, nd2⟩ := db
  have z1 := size_of_entries en1
  have z2 := size_of_entries en2
  have na : ¬ (a == sysModules) = true := by simp [fa]
  have nb : ¬ (b == sysModules) = true := by simp [fb]
  unfold Builtin.Dict.samePairs
  unfold Builtin.Dict.showsAll
  rw [if_neg na, if_neg nb]
  refine wpAny_bind (wpAny_pure ?_)
  refine wpAny_bind (wpAny_pure ?_)
  refine wpAny_bind (wpAny_dictEntries at1 dt1 ?_)
  refine wpAny_bind (wpAny_dictEntries at2 dt2 ?_)
  rw [if_neg (show ¬ (e1.size != e2.size) = true by rw [show e1.size = e2.size by omega]; simp)]
  refine wpAny_bind (wpAny_dictEpoch at1 dt1 (wpAny_bind ?_))
  simp only [Std.Legacy.Range.forIn_eq_forIn_range', Std.Legacy.Range.size, Nat.sub_zero, Nat.add_sub_cancel, Nat.div_one]
  refine wpAny_forIn_list _ (fun rest q s' => s' = s ∧ q = (none, ()) ∧ ∃ i k, rest = List.range' i k ∧ i + k = xa.length) _ ?_ ?_ _ _ ⟨rfl, rfl, 0, e1.size, rfl, by omega⟩
  · rintro y rest q s' ⟨rfl, rfl, i, k, hr, hik⟩
    cases k with
    | zero => simp at hr
    | succ k =>
      rw [List.range'_succ, List.cons.injEq] at hr
      obtain ⟨rfl, rfl⟩ := hr
      have ly : y < xa.length := by omega
      obtain ⟨c, n, t, t', hv, hk⟩ := hits xa[y] (List.getElem_mem ly)
      have here : e1[y]? = some (entryOfKey (nestedKind P w) xa[y]) := (entry_at en1 y).trans (by rw [List.getElem?_eq_getElem ly]; rfl)
      have key := is1 xa[y] (List.getElem_mem ly)
      refine wpAny_bind (wpAny_dictEntries at1 dt1 ?_)
      rw [here]
      refine wpAny_bind (m := holding _ _) ?_
      refine wpAny_holding (wpAny_bind (wpAny_dictFind_heap room key at2 dt2 en2 is2 nd2 (fun no => ?_) fun j r hj => ?_))
      · have := (atKey_none_of_get no).symm.trans hk
        cases this
      · have er : r = (c, .int n t') := Option.some.inj ((atKey_of_get nd2 hj).symm.trans hk)
        subst er
        have there : e2[j]? = some (entryOfKey (nestedKind P w) (xa[y].1, c, .int n t')) := (entry_at en2 j).trans (by rw [hj]; rfl)
        have eqs := keq_flat (A := A) (s := s') (v := .int n t) (y := .int n t') (.int n t) (.int n t')
        rw [show PyData.eqv (.int n) (.int n) = true from beq_self_eq_true n] at eqs
        refine wpAny_bind (wpAny_dictEntries at2 dt2 ?_)
        rw [there]
        show wpAny _ _ (holding _ (eqBool xa[y].2.2 (.int n t'))) _ _ _
        rw [hv]
        refine wpAny_holding (eqs _ _ _ _ ?_)
        refine wpAny_bind (wpAny_dictEpoch at1 dt1 ?_)
        rw [if_neg (by simp)]
        exact wpAny_pure ⟨rfl, rfl, y + 1, k, rfl, by omega⟩
  · rintro q s' ⟨rfl, rfl, _⟩
    exact wpAny_pure yes
theorem ne_maps {a b : Addr} {xa xb : List KX} {Q : Value → Shared → Prop} (fa : (a == sysModules) = false) (fb : (b == sysModules) = false) (da : s.heap.DictOfH (nestedKind P w) a xa) (db : s.heap.DictOfH (nestedKind P w) b xb) (hu : A.units + 64 < cLine) (many : xa.length = xb.length)
    (hits : ∀ x ∈ xa, ∃ (c : Addr) (n : Int) (t t' : Tok), x.2.2 = .int n t ∧ atKey xb x.1 = some (c, .int n t')) (no : Q (.bool false) s) : wpAny (model P w) A (compareOp .NotEq (.ref a) (.ref b)) Q E s := by
  refine wpAny_richCompare_same_room (op := .NotEq) da.typeIs db.typeIs PySem.F.slot_dict_ne ?_ (by omega)
  refine wpAny_call_entry PySem.F.slot_dict_ne da.typeIs PySem.F.entry_dict_ne ?_ (PySem.F.args_dict_ne_2 _ _)
  refine wpAny_bind (m := Builtin.Dict.dictSlotArgs _ _) ?_
  unfold Builtin.Dict.dictSlotArgs
  refine wpAny_bind ?_
  refine wpAny_notOrdered_dict da.typeIs ?_
  refine wpAny_pure (a := (Value.ref a, Value.ref b)) ?_
  refine wpAny_bind ?_
  refine wpAny_isInstance db.typeIs (T := "dict") PySem.F.sub_dict_dict ?_
  rw [if_neg (show ¬ (!true) = true by decide)]
  refine wpAny_bind (wpAny_pure ?_)
  refine wpAny_bind (wpAny_pure ?_)
  refine wpAny_bind ?_
  refine same_maps fa fb da db (by show A.units + 1 + 8 < cLine; omega) many hits ?_
  exact wpAny_pure ⟨_, rfl, fun z => (nomatch z), by simpa using no⟩
end
section
variable {X : Cx}
def rNeK (K : PySem.W.Frag) (w : World) : R2 := fun x y H Q => ∃ (F : Hp) (m m' : List (PyData × PyData)) (a b : Addr), x = .ref a ∧ y = .ref b ∧ Same F H ∧ Dk K w F H a m ∧ Dk K w F H b m' ∧ m.length = m'.length ∧ (∀ p ∈ m, ∃ n : Int, p.2 = .int n ∧ lookD m' p.1 = some (.int n)) ∧ Q (.bl false) H
theorem ens_vals {K : PySem.W.Frag} {F : Hp} : ∀ {xs : List KX} {m : List (PyData × PyData)}, Ens K F xs m → ∀ x ∈ xs, ∃ p ∈ m, ∃ v, x.1 = keyOf p.1 ∧ RelV v x.2.2 ∧ Dn K F v p.2
  | _, _, .nil, x, hx => by cases hx
  | y :: xs, p :: m, .cons (v := v) h1 h2 h3 h4 h5 h6 t, x, hx => by
    rcases List.mem_cons.mp hx with rfl | hx
    · exact ⟨p, List.mem_cons_self, v, h1, h5, h6⟩
    · obtain ⟨q, hq, r⟩ := ens_vals t x hx
      exact ⟨q, List.mem_cons_of_mem _ hq, r⟩
theorem op_neK {k : Nat} (hr : Room k X.A) : OpR X (compareOp .NotEq) (rNeK X.K X.w) := by
  intro pins s σ H x y v u Q I rx ry h
  obtain ⟨F, m, m', a, b, rfl, rfl, le, d1, d2, hl, hh, q⟩ := h
  cases rx
  cases ry
  obtain ⟨o1, xs1, h1, h2, h3, h4, h5⟩ := dk_at I le d1
  obtain ⟨o2, xs2, k1, k2, k3, k4, k5⟩ := dk_at I le d2
  refine ne_maps d1.low d2.low h5 k5 (by have := hr.un; omega) (by rw [h4.len, k4.len, hl]) (fun x hx => ?_) ⟨.bl false, H, I.tok _, rfl, q⟩
  obtain ⟨p, hp, v, e1, e2, e3⟩ := ens_vals h4 x hx
  obtain ⟨n, hn, hk⟩ := hh p hp
  rw [hn] at e3
  cases e3
  obtain ⟨t, ht⟩ := e2
  rcases ens_look p.1 k4 with ⟨e4, _⟩ | ⟨e', c, u', v', e4, e5, e6, e7⟩
  · rw [e4] at hk
    cases hk
  · rw [e4] at hk
    cases hk
    cases e7
    obtain ⟨t', ht'⟩ := e6
    exact ⟨c, n, t, t', ht, by rw [e1, e5, ht']⟩
/-- isinstance(x, dict) of a dict -/
theorem call_isiD : CallR X (.builtin "isinstance") (fun xs H Q => ∃ (a : Addr) (o : Obj), xs = [V.ref a, .ty "dict"] ∧ H a = some (obO a o) ∧ o.cls = .type "dict" ∧ Q (.bl true) H) := by
  intro pins s σ H xs us Q I r h
  obtain ⟨a, o, rfl, hH, hc, q⟩ := h
  obtain ⟨u1, u2, rfl, r1, r2⟩ := vals2 r
  cases r1
  have e2 : u2 = Value.type "dict" := r2
  subst e2
  exact PySem.W.kia_one PySem.W.kitx_dict I.kIn ⟨o, ob_at I hH, hc⟩ (show PySem.W.kitOne X.K (.type "dict") (.type "dict") = some true from kit_ty (by decide +kernel)) (fun z => nomatch z) fun tk => ⟨.bl true, H, I.tok tk, rfl, q⟩
end
section
variable {M : Md} {X : Cx} {N : List Str} {sc scope : Scope} {k j i : Nat} {σ : L2.St} {env : List (Option PyData)} {F0 H0 F H : Hp} {d e' e0 : PyData} {ds : List PyData} {m : List (PyData × PyData)} {e a b iter elt : Expr} {es : List Expr} {body : List Stmt} {D : Ends} {pos p np p2 tp ap q pT : Pos} {x : Str} {l : Addr} {Q : VK} {E : XK} {P P' : List (PyData × PyData) → Prop} {R : List PyData → Out → Prop} {C : CXT} {α : Type}
theorem b_neK (o : Ok M X N sc k) (ha : KI M X a σ F H P) (hb : KI M X b σ F H P') (hP : ∀ m m', P m → P' m' → m.length = m'.length ∧ ∀ p ∈ m, ∃ n : Int, p.2 = .int n ∧ lookD m' p.1 = some (.int n)) (hm : behindInMarks .NotEq b = false := by rfl) : XB M X (.Compare a [.NotEq] [b] pos) σ F H false := by
  refine ⟨fun F1 H1 g Q q => ?_⟩
  refine WT.of (pt_cmpR (op_neK o.room) WE.pe WE.pe hm) ?_
  refine ha.run F1 H1 g _ fun m a F2 H2 h1 g2 dk => ?_
  refine hb.run F2 H2 (g.trans g2) _ fun m' b F3 H3 h2 g3 dk' => ?_
  obtain ⟨c1, c2⟩ := hP m m' h1 h2
  exact ⟨F3, m, m', a, b, rfl, rfl, g3.le, by rw [o.eK, o.eW]; exact dk.grow g3, by rw [o.eK, o.eW]; exact dk', c1, c2, _, rfl, q F3 H3 (g2.trans g3)⟩
theorem x_isiD (o : Ok0 M X N sc) (hm : M.mg "isinstance" = none) (hT : M.mg "dict" = none) (ha : KI M X e σ F H P)
    (hg : sc.names.lookup ("isinstance" : Str) = some .globalImplicit) (hgT : sc.names.lookup ("dict" : Str) = some .globalImplicit)
    (he : starEach [e, .Name "dict" pT] X.env = (false, eval e X.env) :: starEach [.Name "dict" pT] X.env := by rfl) (he2 : starEach [.Name "dict" pT] X.env = (false, eval (.Name "dict" pT) X.env) :: starEach [] X.env := by rfl) (hpl : (backTo pos (starEach [.Name "dict" pT] X.env)).any (·.1) = false := by rfl) :
    XD M X (.Call (.Name "isinstance" p) [e, .Name "dict" pT] [] pos) σ F H (.bool true) := by
  refine ⟨fun F1 H1 g Q q => ?_⟩
  refine WE.of (pe_callB call_isiD (gl_of o hg) (by rw [o.eG]; exact hm) PyProof.Rows.boot_isinstance (pa_cons WE.pe (pa_cons (pe_bltn (v := .ty "dict") (gl_of o hgT) (by rw [o.eG]; exact hT) PyProof.Rows.boot_dict rfl (by decide +kernel) (by decide +kernel)) pa_nil he2) he) (by decide +kernel) (by decide +kernel) he hpl) ?_
  refine ha.run F1 H1 g _ fun m l F2 H2 h1 g2 dk => ?_
  obtain ⟨ob, xs, e1, e2, e3⟩ := dk.ex
  exact ⟨l, ob, rfl, e1, e2.1.1, q _ F2 H2 g2 (.bl true)⟩
/-- name.clear(), the dict dropped -/
theorem t_clearD (o : Ok M X N sc k) (S : Stt M.K F H σ env) (w : OwD M.K M.w F0 H0 F H l m) (hN : At N i x) (hv : σ[i]? = some (some (.ref l))) (hz : m.length ≤ 100000)
    (kk : ∀ H', Grow F0 H0 F H' → Stt M.K F H' σ env → D.nx σ H') (hs : nameB sc x = true)
    (hline : (ap.endLine == pos.line) = true := by rfl)
    (hbase : attributeBase (.Name x np) "clear" X.env (eval (.Name x np) X.env) = eval (.Name x np) X.env := by rfl) (hsw : swapsWith (.Call (.Attribute (.Name x np) "clear" ap) [] [] pos) none p.line X.env = pure false := by rfl) :
    W1 X (.Expr (.Call (.Attribute (.Name x np) "clear" ap) [] [] pos) p) D σ H := by
  unfold nameB at hs
  simp only [Bool.and_eq_true, Bool.not_eq_true'] at hs
  refine s_expr (e := .Call (.Attribute (.Name x np) "clear" ap) [] [] pos) ⟨fun pins s I => ?_⟩ hsw
  refine PySem.Call_method0 hbase hline (thn ((we_slot (pos := np) (Q := fun v H2 => v = V.ref l ∧ H2 = H) o.toOk0 i hv ⟨rfl, rfl⟩ hN.get hs.1.1 hs.1.2 hs.2).run pins s I) fun u s1 ⟨vv, H2, I1, rv, ev, eh⟩ => ?_)
  subst ev eh
  obtain rfl : u = Value.ref l := rv
  have dk1 : Dk X.K X.w F H2 l m := by rw [o.eK, o.eW]; exact w.d
  obtain ⟨o1, xs1, h1, h2, h3, h4, h5⟩ := dk_at I1 S.le dk1
  refine ⟨"dict", _, PySem.F.plainAttrs_dict, PySem.F.slot_dict_clear, PySem.F.type_dict_clear, h5.typeIs, (fun b' q' => ?_), Calls.callWith_builtin rfl (PySem.evalArgs_none ?_)⟩
  · cases q'
    exact ⟨o1, h2, h3.1.2.1⟩
  · refine clear_keyed (knd := nestedKind X.prog X.w) ⟨xs1, h5, rfl⟩ (fun h' hd' hs' => ?_) (by rw [pairsH_length, h4.len]; exact Nat.le_trans hz (by decide))
    obtain ⟨xs2, ⟨o2, es2, ep2, g1, g2, _⟩, _⟩ := hd'
    refine ⟨.non, upd H2 l (obO l o2), ?_, rfl, kk _ (w.g.set w.fF w.fH) (S.ownD w.fF)⟩
    exact d_write I1 (by rw [h1]; exact True.intro) hs' ⟨o2, g1⟩ (ob_ok g1)
end
end Lay

/-! Lay17: name = [elt for x in a list if ..]. -/
namespace Lay
open PySem L2
section
variable {M : Md} {X : Cx} {N : List Str} {sc scope : Scope} {k j : Nat} {σ : L2.St} {F H : Hp} {env : List (Option PyData)} {elt iter : Expr} {pos tp : Pos} {x : Str} {α : Type}
theorem t_setLc {ifs : List Expr} {y : Str} {i : Nat} {py spos : Pos} {D : Ends} (o : Ok M X N sc k) (S : Stt M.K F H σ env) (own : List (Str × Nat)) (j : Nat) (enc : α → PyData) (zs : List α) (p : α → Bool) (g : α → PyData) (hN : At N i y) (hyl : sc.names.lookup y = some .local)
    (hi : XD M X iter σ F H (.list (zs.map enc))) (ok : blkC N sc scope own = true) (hj : j ∈ own.map (·.2)) (hx : N[j]? = some x) (hxl : (relS scope sc).names.lookup x = some .local)
    (hif : ifs = [] ∨ ∃ c, ifs = [c]) (hz : zs.length < 100000)
    (ht : ∀ z, z ∈ zs → ∀ v F1 H1, Grow F H F1 H1 → Dn M.K F1 v (enc z) → Blk M X N sc scope k ifs elt ((wipe σ (own.map (·.2))).set j (some v)) F1 H1 (p z) (g z)) (hp : ifs = [] → ∀ z, p z = true)
    (kk : ∀ v F' H', Grow F H F' H' → Stt M.K F' H' (σ.set i (some v)) (env.set i (some (.list (kept zs p g)))) → D.nx (σ.set i (some v)) H') (hk : sc.kind = .function) (hl : (py.line == pos.line) = true) (ha : (scope.names.any fun (n, k) => n == y && (k == .local || k == .cell)) = false)
    (hs : ∀ x, foldedSetIterable iter X.env x = pure x := by intro _; rfl) : W1 X (.Assign [.Name y py] (.ListComp elt [⟨.Name x tp, iter, ifs, 0⟩] scope pos) spos) D σ H := by
  obtain ⟨tt, htt⟩ := tt_of (X := X) (scope := scope) hif
  have okB : BlkOk X.N X.env.scope scope own := by
    rw [o.eN, o.eS]
    exact blkOk_by ok
  refine W1.of (ps_setLc o.calm (by rw [o.eN]; exact o.nd) (by rw [o.eN]; exact hN.get) (by rw [o.eS]; exact hyl) (sw_true (by rw [o.eS]; exact hk) (by rw [o.eS]; exact hyl) hl ha) (pi_list WE.pe) okB (lc_target o hx hxl) htt.pts BE.pe hs) ?_
  refine hi.run F H (Grow.refl S.le) _ fun y1 F2 H2 g2 r2 => ?_
  cases r2 with
  | lst hla s =>
    rename_i a xs
    have len := s.len
    rw [List.length_map] at len
    refine ⟨a, rfl, ⟨xs, SqL.of (g2.le _ _ hla)⟩, fun B hB => ?_⟩
    refine lc_list (xs := xs) (fun i H' => LcP M.K F2 H2 B (kept (zs.take i) p g) H') ?_ (fun i H' _ P => ?_) (fun i y2 H' hi' P => ?_) (fun H' P => ?_)
    · exact ⟨F2, [], Grow.own g2.le hB, g2.le.free hB, hB, upd_same, .nil⟩
    · obtain ⟨F', us, g', _⟩ := P
      exact SqL.of (g'.kp _ _ (g2.le _ _ hla))
    · obtain ⟨d, hd, r⟩ := s.getV hi'
      rw [List.getElem?_map] at hd
      cases hzz : zs[i]? with
      | none => rw [hzz] at hd; cases hd
      | some z =>
        rw [hzz] at hd
        have ez : enc z = d := Option.some.inj hd
        subst ez
        have hmem : z ∈ zs := List.mem_of_getElem? hzz
        have T := lc_turn (F := F2) (H := H2) (σ := σ) (b := p z) (e := g z) (v := y2) (H' := H') (D := B) (ix := i) o htt hj P (Nat.lt_of_le_of_lt (kept_len _ _ _) (Nat.lt_of_le_of_lt (by rw [List.length_take]; exact Nat.min_le_right _ _) hz)) (fun _ => r)
          (fun F3 H3 g3 => ht z hmem _ F3 H3 (g2.trans g3) (r.mono g3.ex)) (fun h => hp h z) g2.le
        rw [← kept_snoc, ← take_snoc hzz] at T
        exact T
    · rw [len, List.take_length] at P
      obtain ⟨F', us, g', h1, h2, h3, r⟩ := P
      have G := (g2.trans g').fix (o := .lst us) h1 (g2.kp.free h2) h3
      exact kk _ _ H' G ((S.grow G).set (.lst upd_same (r.mono (same_under h1))))
end
end Lay

local macro_rules | `(tactic| walk_at "few") => `(tactic| first | exact Nat.le_of_ble_eq_true rfl | omega | decide)
local macro_rules | `(tactic| walk_at "side") => `(tactic| first | assumption | decide | omega)
local macro_rules | `(tactic| walk_at "pl") => `(tactic| first | rfl | assumption | exact Lay.pl_ints _ | exact Lay.pl_bools _)
local macro_rules | `(tactic| walk_at "at") => `(tactic| first | rfl | assumption)
local macro_rules | `(tactic| walk_at "glb") => `(tactic| decide +kernel)
local macro_rules | `(tactic| walk_at "bt") => `(tactic| with_reducible assumption)
local macro_rules | `(tactic| walk_at "ok0") => `(tactic| exact Lay.Ok.toOk0 (by assumption))
local macro_rules | `(tactic| walk_at "ix") => `(tactic| first | (with_reducible exact Lay.At.here) | (with_reducible refine' Lay.At.there ?t; (case t => walk_at "ix")))
local macro_rules | `(tactic| walk_at "var") => `(tactic| (refine' Lay.v_ ?o ?s ?n ?e ?h; (case o => assumption); (case s => assumption); (case n => walk_at "ix"); (case e => rfl); (case h => decide +kernel)))
local macro_rules | `(tactic| walk_at "xa") => `(tactic| first
  | exact Lay.a_nil
  | (refine' Lay.a_cons ?a ?b; (case a => walk_at "xd"); (case b => walk_at "xa")))
local macro_rules | `(tactic| walk_at "xh") => `(tactic| (refine' Lay.XD.xh ?a; (case a => walk_at "xd")))
local macro_rules | `(tactic| walk_at "pz") => `(tactic| first | exact Lay.pz0 | exact Lay.pzX)
local macro_rules | `(tactic| walk_at "isi") => `(tactic| (refine' Lay.x_isi ?o ?m ?tn ?b ?a ?k ?d ?g ?gt ?n ?db; (case o => walk_at "ok0"); (case m => walk_at "bt"); (case tn => walk_at "bt"); (case b => first | exact PyProof.Rows.boot_int | exact PyProof.Rows.boot_bool | exact PyProof.Rows.boot_tuple | exact PyProof.Rows.boot_list | exact PyProof.Rows.boot_str | exact PyProof.Rows.boot_dict); (case a => walk_at "xd"); (case k => first | exact Lay.kt_ii | exact Lay.kt_ib | exact Lay.kt_tt | exact Lay.kt_bb | exact Lay.kt_ll | exact Lay.kt_ss | exact Lay.kt_bi); (case d => rfl); (case g => decide +kernel); (case gt => decide +kernel); (case n => decide +kernel); (case db => decide +kernel)))
local macro_rules | `(tactic| walk_at "call") => `(tactic| (refine' Lay.x_call ?o ?f ?z ?a ?r ?j ?g; (case o => assumption); (case f => with_reducible assumption); (case z => walk_at "pz"); (case a => walk_at "xa"); (case j => decide); (case g => decide +kernel); (case r => walk_at "rel")))
local macro_rules | `(tactic| walk_at "ocall") => `(tactic| (refine' Lay.o_call ?o ?f ?z ?a ?r ?j ?g; (case o => assumption); (case f => with_reducible assumption); (case z => walk_at "pz"); (case a => walk_at "xa"); (case j => decide); (case g => decide +kernel); (case r => walk_at "rel")))
local macro_rules | `(tactic| walk_at "xo") => `(tactic| first
  | assumption
  | walk_at "ocall"
  | (refine' Lay.x_lst ?a ?z; (case a => walk_at "xa"); (case z => walk_at "few")))
local macro_rules | `(tactic| walk_at "xd") => `(tactic| first
  | exact Lay.x_int
  | exact Lay.x_str
  | exact Lay.x_bl
  | exact Lay.x_non
  | walk_at "var"
  | assumption
  | (refine' Lay.x_const ?o ?c ?g ?d; (case o => assumption); (case c => with_reducible assumption); (case g => decide +kernel); (case d => decide +kernel))
  | (refine' Lay.x_add ?a ?b; (case a => walk_at "xd"); (case b => walk_at "xd"))
  | (refine' Lay.x_adds ?a ?b ?c; (case a => walk_at "xd"); (case b => walk_at "xd"); (case c => walk_at "slen"))
  | (refine' Lay.x_sub ?a ?b; (case a => walk_at "xd"); (case b => walk_at "xd"))
  | (refine' Lay.x_mulR ?a ?b ?c; (case a => walk_at "xd"); (case b => walk_at "xd"); (case c => walk_at "side"))
  | (refine' Lay.x_mulL ?a ?b ?c; (case a => walk_at "xd"); (case b => walk_at "xd"); (case c => walk_at "side"))
  | (refine' Lay.x_mod ?a ?b ?c; (case a => walk_at "xd"); (case b => walk_at "xd"); (case c => walk_at "side"))
  | (refine' Lay.x_fdiv ?a ?b ?c; (case a => walk_at "xd"); (case b => walk_at "xd"); (case c => walk_at "side"))
  | (refine' Lay.x_neg ?a; (case a => walk_at "xd"))
  | (refine' Lay.x_ixT ?o ?a ?b ?c; (case o => walk_at "ok0"); (case a => walk_at "xd"); (case b => walk_at "xd"); (case c => walk_at "at"))
  | (refine' Lay.x_ixL ?o ?a ?b ?c; (case o => walk_at "ok0"); (case a => walk_at "xd"); (case b => walk_at "xd"); (case c => walk_at "at"))
  | (refine' Lay.x_len ?o ?m ?a ?g; (case o => walk_at "ok0"); (case m => walk_at "bt"); (case a => walk_at "xh"); (case g => decide +kernel))
  | (refine' Lay.x_tup ?a ?z; (case a => walk_at "xa"); (case z => walk_at "few"))
  | walk_at "call"
  | walk_at "isi"
  | (refine' Lay.x_all ?o ?m ?a ?g; (case o => assumption); (case m => walk_at "bt"); (case a => walk_at "xh"); (case g => decide +kernel))
  | (refine' Lay.x_eqS ?a ?b; (case a => walk_at "xh"); (case b => walk_at "xh"))
  | (refine' Lay.x_eq ?o ?a ?b ?c ?d; (case o => assumption); (case a => walk_at "xh"); (case b => walk_at "xh"); (case c => walk_at "pl"); (case d => walk_at "pl"))
  | (refine' Lay.x_ne ?o ?a ?b ?c ?d; (case o => assumption); (case a => walk_at "xh"); (case b => walk_at "xh"); (case c => walk_at "pl"); (case d => walk_at "pl"))
  | (refine' Lay.x_lt ?a ?b; (case a => walk_at "xh"); (case b => walk_at "xh"))
  | (refine' Lay.x_le ?a ?b; (case a => walk_at "xh"); (case b => walk_at "xh"))
  | (refine' Lay.x_gt ?a ?b; (case a => walk_at "xh"); (case b => walk_at "xh"))
  | (refine' Lay.x_ge ?a ?b; (case a => walk_at "xh"); (case b => walk_at "xh"))
  | (refine' Lay.XO.xd ?a; (case a => walk_at "xo")))
local macro_rules | `(tactic| walk_at "xb") => `(tactic| first
  | assumption
  | (refine' Lay.b_not ?a; (case a => walk_at "xb"))
  | (refine' Lay.b_eqS ?a ?b; (case a => walk_at "xh"); (case b => walk_at "xh"))
  | (refine' Lay.b_neS ?a ?b; (case a => walk_at "xh"); (case b => walk_at "xh"))
  | (refine' Lay.b_eq ?o ?a ?b ?c ?d; (case o => assumption); (case a => walk_at "xh"); (case b => walk_at "xh"); (case c => walk_at "pl"); (case d => walk_at "pl"))
  | (refine' Lay.b_ne ?o ?a ?b ?c ?d; (case o => assumption); (case a => walk_at "xh"); (case b => walk_at "xh"); (case c => walk_at "pl"); (case d => walk_at "pl"))
  | (refine' Lay.b_lt ?a ?b; (case a => walk_at "xh"); (case b => walk_at "xh"))
  | (refine' Lay.b_le ?a ?b; (case a => walk_at "xh"); (case b => walk_at "xh"))
  | (refine' Lay.b_gt ?a ?b; (case a => walk_at "xh"); (case b => walk_at "xh"))
  | (refine' Lay.b_ge ?a ?b; (case a => walk_at "xh"); (case b => walk_at "xh"))
  | (refine' Lay.b_lele ?a ?b ?c; (case a => walk_at "xd"); (case b => walk_at "xd"); (case c => walk_at "xd"))
  | (refine' Lay.b_lelt ?a ?b ?c; (case a => walk_at "xd"); (case b => walk_at "xd"); (case c => walk_at "xd"))
  | (refine' Lay.b_val ?a; (case a => walk_at "xd")))
local macro_rules | `(tactic| walk_at "set") => `(tactic| (refine' Lay.t_set ?o ?f ?s ?n ?h ?k ?l; (case o => assumption); (case f => assumption); (case s => assumption); (case n => walk_at "ix"); (case l => decide +kernel); (case h => walk_at "xd")))
local macro_rules | `(tactic| walk_at "if") => `(tactic| (refine' Lay.t_if ?s ?c ?t ?f; (case s => assumption); (case c => walk_at "xb")))
local macro_rules | `(tactic| walk_at "xdt") => `(tactic| (refine' Lay.XD.to ?h ?e; (case h => walk_at "xd"); (case e => rfl)))
local macro_rules | `(tactic| walk_at "xbt") => `(tactic| (refine' Lay.XB.to ?h ?e; (case h => walk_at "xb"); (case e => rfl)))
local macro_rules | `(tactic| walk_at "xde") => `(tactic| (refine' Lay.XD.to ?h ?e; (case h => walk_at "xd")))
local macro_rules | `(tactic| walk_at "xbe") => `(tactic| (refine' Lay.XB.to ?h ?e; (case h => walk_at "xb")))

namespace Roll
open PySem L2 Lay
def top (i : Nat) : Stmt := PySem.Challenge.pw_rolldie_k12_refused_first.main.body.getD i (.Pass ⟨0, 0, 0, 0⟩)
abbrev s_rolled_by : Stmt := top 11
abbrev n_rolled_by : List Str := ["lie", "roll", "top", "north", "east"]
theorem sc_rolled_by : FnScope n_rolled_by ["lie", "roll"] (defScope s_rolled_by) := ⟨rfl, rfl, rfl, by decide +kernel, rfl, by decide +kernel, by decide +kernel⟩
abbrev s_pairs_of : Stmt := top 12
abbrev n_pairs_of : List Str := ["lie", "number"]
theorem sc_pairs_of : FnScope n_pairs_of ["lie"] (defScope s_pairs_of) := ⟨rfl, rfl, rfl, by decide +kernel, rfl, by decide +kernel, by decide +kernel⟩
abbrev s_disorder : Stmt := top 13
abbrev n_disorder : List Str := ["row", "count", "place", "number"]
theorem sc_disorder : FnScope n_disorder ["row"] (defScope s_disorder) := ⟨rfl, rfl, rfl, by decide +kernel, rfl, by decide +kernel, by decide +kernel⟩
abbrev s_is_lie : Stmt := top 14
abbrev n_is_lie : List Str := ["lie", "number", "great"]
theorem sc_is_lie : FnScope n_is_lie ["lie"] (defScope s_is_lie) := ⟨rfl, rfl, rfl, by decide +kernel, rfl, by decide +kernel, by decide +kernel⟩
abbrev s_must_be_lie : Stmt := top 15
abbrev n_must_be_lie : List Str := ["lie"]
theorem sc_must_be_lie : FnScope n_must_be_lie ["lie"] (defScope s_must_be_lie) := ⟨rfl, rfl, rfl, by decide +kernel, rfl, by decide +kernel, by decide +kernel⟩
abbrev s_must_be_floor : Stmt := top 19
abbrev n_must_be_floor : List Str := ["floor", "row", "sign"]
theorem sc_must_be_floor : FnScope n_must_be_floor ["floor"] (defScope s_must_be_floor) := ⟨rfl, rfl, rfl, by decide +kernel, rfl, by decide +kernel, by decide +kernel⟩
abbrev s_is_cell : Stmt := top 20
abbrev n_is_cell : List Str := ["floor", "place"]
theorem sc_is_cell : FnScope n_is_cell ["floor", "place"] (defScope s_is_cell) := ⟨rfl, rfl, rfl, by decide +kernel, rfl, by decide +kernel, by decide +kernel⟩
abbrev s_must_be_cell : Stmt := top 21
abbrev n_must_be_cell : List Str := ["floor", "place"]
theorem sc_must_be_cell : FnScope n_must_be_cell ["floor", "place"] (defScope s_must_be_cell) := ⟨rfl, rfl, rfl, by decide +kernel, rfl, by decide +kernel, by decide +kernel⟩
abbrev s_must_be_stand : Stmt := top 22
abbrev n_must_be_stand : List Str := ["floor", "stand"]
theorem sc_must_be_stand : FnScope n_must_be_stand ["floor", "stand"] (defScope s_must_be_stand) := ⟨rfl, rfl, rfl, by decide +kernel, rfl, by decide +kernel, by decide +kernel⟩
abbrev s_next_stand : Stmt := top 23
abbrev n_next_stand : List Str := ["floor", "stand", "roll", "step", "place"]
theorem sc_next_stand : FnScope n_next_stand ["floor", "stand", "roll"] (defScope s_next_stand) := ⟨rfl, rfl, rfl, by decide +kernel, rfl, by decide +kernel, by decide +kernel⟩
abbrev s_walked : Stmt := top 24
abbrev n_walked : List Str := ["floor", "stand", "rolls", "roll", "then"]
theorem sc_walked : FnScope n_walked ["floor", "stand", "rolls"] (defScope s_walked) := ⟨rfl, rfl, rfl, by decide +kernel, rfl, by decide +kernel, by decide +kernel⟩
abbrev s_distances : Stmt := top 26
abbrev n_distances : List Str := ["floor", "stand", "found", "left", "at", "roll", "then"]
theorem sc_distances : FnScope n_distances ["floor", "stand"] (defScope s_distances) := ⟨rfl, rfl, rfl, by decide +kernel, rfl, by decide +kernel, by decide +kernel⟩
abbrev s_come_to : Stmt := top 27
abbrev n_come_to : List Str := ["floor", "stand"]
theorem sc_come_to : FnScope n_come_to ["floor", "stand"] (defScope s_come_to) := ⟨rfl, rfl, rfl, by decide +kernel, rfl, by decide +kernel, by decide +kernel⟩
abbrev s_way : Stmt := top 28
abbrev n_way : List Str := ["floor", "one", "other", "back", "found", "good", "roll", "then"]
theorem sc_way : FnScope n_way ["floor", "one", "other"] (defScope s_way) := ⟨rfl, rfl, rfl, by decide +kernel, rfl, by decide +kernel, by decide +kernel⟩
abbrev s_ends : Stmt := top 29
abbrev n_ends : List Str := ["floor", "stand", "place", "one"]
theorem sc_ends : FnScope n_ends ["floor", "stand", "place"] (defScope s_ends) := ⟨rfl, rfl, rfl, by decide +kernel, rfl, by decide +kernel, by decide +kernel⟩
abbrev s_firm : Stmt := top 30
abbrev n_firm : List Str := ["floor", "stand", "tops", "one", "place"]
theorem sc_firm : FnScope n_firm ["floor", "stand"] (defScope s_firm) := ⟨rfl, rfl, rfl, by decide +kernel, rfl, by decide +kernel, by decide +kernel⟩
abbrev s_turns : Stmt := top 32
abbrev n_turns : List Str := ["floor", "place"]
theorem sc_turns : FnScope n_turns ["floor", "place"] (defScope s_turns) := ⟨rfl, rfl, rfl, by decide +kernel, rfl, by decide +kernel, by decide +kernel⟩
abbrev s__law_cell_at : Stmt := top 34
abbrev n__law_cell_at : List Str := ["script", "k"]
theorem sc__law_cell_at : FnScope n__law_cell_at ["script", "k"] (defScope s__law_cell_at) := ⟨rfl, rfl, rfl, by decide +kernel, rfl, by decide +kernel, by decide +kernel⟩
abbrev s__law_mix : Stmt := top 35
abbrev n__law_mix : List Str := ["cell", "k", "mixed"]
theorem sc__law_mix : FnScope n__law_mix ["cell", "k"] (defScope s__law_mix) := ⟨rfl, rfl, rfl, by decide +kernel, rfl, by decide +kernel, by decide +kernel⟩
abbrev s__law_pairs : Stmt := top 36
abbrev n__law_pairs : List Str := ["lie", "number"]
theorem sc__law_pairs : FnScope n__law_pairs ["lie"] (defScope s__law_pairs) := ⟨rfl, rfl, rfl, by decide +kernel, rfl, by decide +kernel, by decide +kernel⟩
abbrev s__law_odd : Stmt := top 37
abbrev n__law_odd : List Str := ["row", "count", "k", "one"]
theorem sc__law_odd : FnScope n__law_odd ["row"] (defScope s__law_odd) := ⟨rfl, rfl, rfl, by decide +kernel, rfl, by decide +kernel, by decide +kernel⟩
abbrev s__law_is_lie : Stmt := top 38
abbrev n__law_is_lie : List Str := ["lie", "number", "great"]
theorem sc__law_is_lie : FnScope n__law_is_lie ["lie"] (defScope s__law_is_lie) := ⟨rfl, rfl, rfl, by decide +kernel, rfl, by decide +kernel, by decide +kernel⟩
abbrev s__law_lies : Stmt := top 39
abbrev n__law_lies : List Str := ["found", "top", "north", "east"]
theorem sc__law_lies : FnScope n__law_lies [] (defScope s__law_lies) := ⟨rfl, rfl, rfl, by decide +kernel, rfl, by decide +kernel, by decide +kernel⟩
abbrev s__law_floor : Stmt := top 40
abbrev n__law_floor : List Str := ["script", "start", "most", "cell", "rows", "columns", "rare", "found", "row", "line", "column", "mixed"]
theorem sc__law_floor : FnScope n__law_floor ["script", "start", "most"] (defScope s__law_floor) := ⟨rfl, rfl, rfl, by decide +kernel, rfl, by decide +kernel, by decide +kernel⟩
abbrev s__law_cells : Stmt := top 41
abbrev n__law_cells : List Str := ["floor", "found", "row", "column"]
theorem sc__law_cells : FnScope n__law_cells ["floor"] (defScope s__law_cells) := ⟨rfl, rfl, rfl, by decide +kernel, rfl, by decide +kernel, by decide +kernel⟩
abbrev s__law_refused : Stmt := top 42
abbrev n__law_refused : List Str := ["marks", "which", "k"]
theorem sc__law_refused : FnScope n__law_refused ["marks", "which"] (defScope s__law_refused) := ⟨rfl, rfl, rfl, by decide +kernel, rfl, by decide +kernel, by decide +kernel⟩
abbrev s__law_called : Stmt := top 43
abbrev n__law_called : List Str := ["which", "floor", "one", "other"]
theorem sc__law_called : FnScope n__law_called ["which", "floor", "one", "other"] (defScope s__law_called) := ⟨rfl, rfl, rfl, by decide +kernel, rfl, by decide +kernel, by decide +kernel⟩
abbrev s__law_met : Stmt := top 44
abbrev n__law_met : List Str := ["which", "floor", "one", "other", "marks", "e"]
theorem sc__law_met : FnScope n__law_met ["which", "floor", "one", "other"] (defScope s__law_met) := ⟨rfl, rfl, rfl, by decide +kernel, rfl, by decide +kernel, by decide +kernel⟩
abbrev s__law_due : Stmt := top 45
abbrev n__law_due : List Str := ["which", "good", "cells", "one", "other"]
theorem sc__law_due : FnScope n__law_due ["which", "good", "cells", "one", "other"] (defScope s__law_due) := ⟨rfl, rfl, rfl, by decide +kernel, rfl, by decide +kernel, by decide +kernel⟩
abbrev s__law_stand : Stmt := top 46
abbrev n__law_stand : List Str := ["floor", "cells", "cell", "place", "lie"]
theorem sc__law_stand : FnScope n__law_stand ["floor", "cells", "cell"] (defScope s__law_stand) := ⟨rfl, rfl, rfl, by decide +kernel, rfl, by decide +kernel, by decide +kernel⟩
abbrev s_law : Stmt := top 47
abbrev n_law : List Str := ["script", "floor", "cells", "one", "other", "good", "which", "due", "marks"]
theorem sc_law : FnScope n_law ["script"] (defScope s_law) := ⟨rfl, rfl, rfl, by decide +kernel, rfl, by decide +kernel, by decide +kernel⟩
end Roll

namespace Roll
open PySem L2 Lay
/-- three numbers as a tuple -/
abbrev tl (a b c : Int) : PyData := .tuple [.int a, .int b, .int c]
abbrev tL (l : Die.L3) : PyData := tl l.1 l.2.1 l.2.2
/-- a class of errors, as the module made it -/
structure Ec (M : Md) (x : Str) (C : Addr) : Prop where
  g : M.mg x = some (.ref C)
  xc : PySem.W.excIn M.K C [.type "ValueError", .type "Exception", .type "BaseException", .type "object"] "ValueError.__new__" = true
  kp : PySem.W.keepIn M.K (.ref C) = true
  sb : PySem.W.subIn M.K (.ref C) (.type "BaseException") = some true
  ty : PySem.W.typeIn M.K (.ref C) = some (.type "type")
/-- marks of the error number w -/
def marksOf (w : Int) : List Bool := (List.range 5).map (fun k : Nat => ((k : Int) == w)) ++ [true]
theorem pl_tints (ns : List Int) : Pl (.tuple (ns.map PyData.int)) := pl_ints ns
theorem like_true {l m : Die.L3} (h : l = m) : PyData.bool ([l.1, l.2.1, l.2.2] == [m.1, m.2.1, m.2.2]) = .bool true := by
  subst h
  rw [beq_self_eq_true]
def rLaw (ds : List PyData) (r : Out) : Prop := ∃ ns : List Int, ns.length ≤ 63 ∧ ds = [scr ns] ∧ r = .val (.bool true)
def rRoll (ds : List PyData) (r : Out) : Prop := ∃ (a b c : Int) (g : Nat), ds = [tl a b c, .str ⟨#[g]⟩] ∧ r = .val (tL (Die.roll (a, b, c) g))
def rRolled (ds : List PyData) (r : Out) : Prop := ∃ (a b c : Int) (cs : List Nat), ds = [tl a b c, .str (tx cs)] ∧ r = .val (tL (Die.rolled (a, b, c) cs))
theorem eqv_tL (l m : Die.L3) : PyData.eqv (tL l) (tL m) = decide (l = m) := by
  obtain ⟨a, b, c⟩ := l
  obtain ⟨x, y, z⟩ := m
  show (a == x && (b == y && (c == z && true))) = _
  by_cases h1 : a = x
  · by_cases h2 : b = y
    · by_cases h3 : c = z
      · subst h1 h2 h3
        simp
      · simp [h3]
    · simp [h2]
  · simp [h1]
end Roll

namespace Roll
open PySem L2 Lay
/-! the steps of the rolls: a written dict -/
abbrev tP (p : Sta.P2) : PyData := .tuple [.int p.1, .int p.2]
abbrev tSd (s : Sta.Sd) : PyData := .tuple [tP s.1, tL s.2]
structure Steps (M : Md) : Prop where
  ex : ∃ xS : Addr, M.mg "STEPS" = some (.ref xS) ∧ (∃ es n, KDict M.K M.w xS es n) ∧
    (∀ c d, Sta.stepC c = some d → ∃ p : Addr, PySem.W.nsIn M.K xS ⟨#[c]⟩ = some (some (.ref p)) ∧ ∀ F, Dn M.K F (.ref p) (tP d)) ∧
    ∀ c, Sta.stepC c = none → PySem.W.nsIn M.K xS ⟨#[c]⟩ = some none
theorem nsIn_four {K : PySem.W.Frag} {x : Addr} {h1 h2 h3 h4 : Int} {k1 k2 k3 k4 : Str} {t1 t2 t3 t4 : Tok} {v1 v2 v3 v4 : Value} {n : Nat}
    (hl : K.lookup x = some ⟨.type "dict", none, .dict #[⟨h1, .str k1 t1, v1⟩, ⟨h2, .str k2 t2, v2⟩, ⟨h3, .str k3 t3, v3⟩, ⟨h4, .str k4 t4, v4⟩] n, #[]⟩) (z : Str) :
    PySem.W.nsIn K x z = some (if z = k1 then some v1 else if z = k2 then some v2 else if z = k3 then some v3 else if z = k4 then some v4 else none) := by
  have e : ∀ (k : Str) (t : Tok), (Value.str k t).isStr z = decide (z = k) := fun k t => by
    rw [PySem.W.isStr_of]
    show (k == z) = decide (z = k)
    by_cases h : z = k
    · subst h
      simp
    · rw [decide_eq_false h]
      simp [Ne.symm h]
  unfold PySem.W.nsIn
  rw [hl]
  simp only [List.find?_cons, e]
  by_cases q1 : z = k1
  · simp [q1]
  rw [decide_eq_false q1, if_neg q1]
  by_cases q2 : z = k2
  · simp [q2]
  rw [decide_eq_false q2, if_neg q2]
  by_cases q3 : z = k3
  · simp [q3]
  rw [decide_eq_false q3, if_neg q3]
  by_cases q4 : z = k4
  · simp [q4]
  rw [decide_eq_false q4, if_neg q4]
  simp [DictEntry.refKey]
theorem one_inj {c d : Nat} : ((⟨#[c]⟩ : Str) = ⟨#[d]⟩) = (c = d) := by
  apply propext
  have := sign_eq c d
  constructor
  · intro h
    rw [decide_eq_true h] at this
    exact of_decide_eq_true this.symm
  · intro h
    subst h
    rfl
theorem tup_two {K : PySem.W.Frag} {p : Addr} {dd : Option Addr} {i j : Int} {u v : Tok} {m : Nat} {sl : Array (Option Value)} (h : K.lookup p = some ⟨.type "tuple", dd, .seq #[.int i u, .int j v] m, sl⟩) (F : Hp) : Dn K F (.ref p) (tP (i, j)) :=
  .tup (xs := [.int i, .int j]) (.inr ⟨_, _, m, h, rfl, rfl, Nat.le_trans (Nat.le_of_ble_eq_true rfl : _ ≤ 100) (by decide), .cons ⟨u, rfl⟩ (.cons ⟨v, rfl⟩ .nil)⟩) (.cons (.int i) (.cons (.int j) .nil))
theorem steps_mk {M : Md} {x pn pe ps pw : Addr} {hn he hs hw : Int} {kn ke ks kw n0 n1 e0 e1 s0 s1 w0 w1 : Tok} {n mn me ms mw : Nat} {dn de ds dw : Option Addr} {ln le ls lw : Array (Option Value)} (g : M.mg "STEPS" = some (.ref x))
    (hl : M.K.lookup x = some ⟨.type "dict", none, .dict #[⟨hn, .str "n" kn, .ref pn⟩, ⟨he, .str "e" ke, .ref pe⟩, ⟨hs, .str "s" ks, .ref ps⟩, ⟨hw, .str "w" kw, .ref pw⟩] n, #[]⟩)
    (hk : PySem.W.KeysLit M.w.params [⟨hn, .str "n" kn, .ref pn⟩, ⟨he, .str "e" ke, .ref pe⟩, ⟨hs, .str "s" ks, .ref ps⟩, ⟨hw, .str "w" kw, .ref pw⟩]) (low : (x == sysModules) = false)
    (an : M.K.lookup pn = some ⟨.type "tuple", dn, .seq #[.int (-1) n0, .int 0 n1] mn, ln⟩) (ae : M.K.lookup pe = some ⟨.type "tuple", de, .seq #[.int 0 e0, .int 1 e1] me, le⟩)
    (as : M.K.lookup ps = some ⟨.type "tuple", ds, .seq #[.int 1 s0, .int 0 s1] ms, ls⟩) (aw : M.K.lookup pw = some ⟨.type "tuple", dw, .seq #[.int 0 w0, .int (-1) w1] mw, lw⟩) : Steps M := by
  have hns := fun z => nsIn_four hl z
  rw [sign_n, sign_e, sign_s, sign_w] at hns
  refine ⟨x, g, ⟨_, _, hl, hk, low⟩, fun c d h => ?_, fun c h => ?_⟩
  · have e := hns ⟨#[c]⟩
    simp only [one_inj] at e
    unfold Sta.stepC at h
    by_cases h1 : c = 110
    · rw [if_pos h1] at e h
      cases h
      exact ⟨pn, e, tup_two an⟩
    rw [if_neg h1] at e h
    by_cases h2 : c = 101
    · rw [if_pos h2] at e h
      cases h
      exact ⟨pe, e, tup_two ae⟩
    rw [if_neg h2] at e h
    by_cases h3 : c = 115
    · rw [if_pos h3] at e h
      cases h
      exact ⟨ps, e, tup_two as⟩
    rw [if_neg h3] at e h
    by_cases h4 : c = 119
    · rw [if_pos h4] at e h
      cases h
      exact ⟨pw, e, tup_two aw⟩
    rw [if_neg h4] at h
    cases h
  · have e := hns ⟨#[c]⟩
    simp only [one_inj] at e
    unfold Sta.stepC at h
    by_cases h1 : c = 110
    · rw [if_pos h1] at h
      cases h
    by_cases h2 : c = 101
    · rw [if_neg h1, if_pos h2] at h
      cases h
    by_cases h3 : c = 115
    · rw [if_neg h1, if_neg h2, if_pos h3] at h
      cases h
    by_cases h4 : c = 119
    · rw [if_neg h1, if_neg h2, if_neg h3, if_pos h4] at h
      cases h
    rw [if_neg h1, if_neg h2, if_neg h3, if_neg h4] at e
    exact e
section
variable {M : Md} {X : Cx} {N : List Str} {sc : Scope} {k : Nat} {σ : L2.St} {F H : Hp} {a : Expr} {pos p : Pos} {c : Nat} {d : Sta.P2}
theorem b_ninSteps (o : Ok M X N sc k) (st : Steps M) (ha : XD M X a σ F H (.str ⟨#[c]⟩)) (hg : sc.names.lookup ("STEPS" : Str) = some .globalImplicit) : XB M X (.Compare a [.NotIn] [.Name "STEPS" p] pos) σ F H (!(Sta.stepC c).isSome) := by
  obtain ⟨x, g, ⟨es, n, kd⟩, h1, h2⟩ := st.ex
  rw [← o.eK, ← o.eW] at kd
  refine ⟨fun F1 H1 gr Q q => ?_⟩
  refine WT.of (pt_cmpR (op_notIn_kd kd) WE.pe (pe_glob (v := .ref x) (gl_of o.toOk0 hg) (by rw [o.eG]; exact g) rfl (by decide +kernel)) rfl) ?_
  refine ha.run F1 H1 gr _ fun v F2 H2 g2 r2 => ?_
  cases r2
  cases hc : Sta.stepC c with
  | none => exact ⟨_, none, rfl, rfl, by rw [o.eK]; exact h2 c hc, _, rfl, by rw [hc] at q; exact q F2 H2 g2⟩
  | some d =>
    obtain ⟨p, e, _⟩ := h1 c d hc
    exact ⟨_, some (.ref p), rfl, rfl, by rw [o.eK]; exact e, _, rfl, by rw [hc] at q; exact q F2 H2 g2⟩
theorem x_ixSteps (o : Ok M X N sc k) (st : Steps M) (ha : XD M X a σ F H (.str ⟨#[c]⟩)) (hd : Sta.stepC c = some d) (hg : sc.names.lookup ("STEPS" : Str) = some .globalImplicit) (hp : PlainIx a := by exact fun _ _ => rfl) : XD M X (.Subscript (.Name "STEPS" p) a pos) σ F H (tP d) := by
  obtain ⟨x, g, ⟨es, n, kd⟩, h1, h2⟩ := st.ex
  obtain ⟨p', e, hD⟩ := h1 c d hd
  refine ⟨fun F1 H1 gr Q q => ?_⟩
  refine WE.of (pe_ix ix_kdict (pe_glob (v := .ref x) (gl_of o.toOk0 hg) (by rw [o.eG]; exact g) rfl (by decide +kernel)) WE.pe hp) ?_
  show WE X a σ H1 _
  refine ha.run F1 H1 gr _ fun v F2 H2 g2 r2 => ?_
  cases r2
  refine ⟨x, _, .ref p', rfl, rfl, ⟨es, n, .ref p', ?_, ?_, ?_, rfl⟩, q _ F2 H2 g2 (hD F2)⟩
  · rw [o.eK]
    exact kd.at_
  · rw [o.eW]
    exact kd.lit
  · rw [o.eK]
    exact e
end
end Roll

namespace Roll
open PySem L2 Lay
theorem pr_at {z : Int} (h : 1 ≤ z ∧ z ≤ 6) : atI [PyData.int 0, .int 1, .int 2, .int 3, .int 3, .int 2, .int 1] z = some (.int (Die.pr z)) := by
  have : z = 1 ∨ z = 2 ∨ z = 3 ∨ z = 4 ∨ z = 5 ∨ z = 6 := by omega
  rcases this with rfl | rfl | rfl | rfl | rfl | rfl <;> rfl
def rPairs (ds : List PyData) (r : Out) : Prop := ∃ a b c : Int, ds = [tl a b c] ∧ (1 ≤ a ∧ a ≤ 6) ∧ (1 ≤ b ∧ b ≤ 6) ∧ (1 ≤ c ∧ c ≤ 6) ∧ r = .own [.int (Die.pr a), .int (Die.pr b), .int (Die.pr c)]
def rDis (ds : List PyData) (r : Out) : Prop := ∃ ns : List Int, ds = [.list (ns.map PyData.int)] ∧ ns.length ≤ 1000 ∧ r = .val (.int (Die.dis ns))
section
variable {M : Md}
theorem fc_pairs_of {f : Addr} {fd : FuncData} (F : Fun M.K "pairs_of" "pairs_of" s_pairs_of f fd) (gm : M.mg "pairs_of" = some (.ref f)) (bd : Binds M.K fd ["lie"] [])
    (hP : Gc M "PAIRS" (.tuple [.int 0, .int 1, .int 2, .int 3, .int 3, .int 2, .int 1])) : Fc M CX0 "pairs_of" 1 (spG M.K rPairs) := by
  refine fc_of F gm bd sc_pairs_of (fun ds r h => ?_) (by decide) fun X o fs ds r h F0 H σ Q E S dn => ?_
  · obtain ⟨a, b, c, rfl, _⟩ := h
    rfl
  · obtain ⟨a, b, c, rfl, ha, hb, hc, rfl⟩ := h
    have hz : ∀ z ∈ [a, b, c], 1 ≤ z ∧ z ≤ 6 := by
      intro z hz
      simp only [List.mem_cons, List.not_mem_nil, or_false] at hz
      rcases hz with rfl | rfl | rfl <;> assumption
    refine s_one (t_doneO (E := E) S (o_lc o [("number", 1)] 1 PyData.int [a, b, c] (fun _ => true) (fun z => .int (Die.pr z)) S.le (.inr (by walk_at "xd")) (by decide +kernel) (by decide) rfl (by decide +kernel) (.inl rfl) (by show 3 < 100000; decide) (fun z hm v F1 H1 g r => ?_) (fun _ _ => rfl)) dn)
    have hz := hz z hm
    have S' := S.blk (vs := [1]) (j := 1) g r
    have e := pr_at hz
    exact Blk.no fun Y oY => by walk_at "xd"
theorem gr_eq (ns : List Int) (i : Nat) {z : Int} (hz : ns[i]? = some z) : Die.gr ns i = ((ns.take i).filter fun n => decide (z < n)).length := by
  unfold Die.gr
  rw [show ns.getD i 0 = z by rw [List.getD_eq_getElem?_getD, hz]; rfl]
theorem fc_disorder {f : Addr} {fd : FuncData} (F : Fun M.K "disorder" "disorder" s_disorder f fd) (gm : M.mg "disorder" = some (.ref f)) (bd : Binds M.K fd ["row"] [])
    (hlen : M.mg "len" = none) (hran : M.mg "range" = none) : Fc M CX0 "disorder" 1 (spG M.K rDis) := by
  refine fc_of F gm bd sc_disorder (fun ds r h => ?_) (by decide) fun X o fs ds r h F0 H σ Q E S dn => ?_
  · obtain ⟨ns, rfl, _⟩ := h
    rfl
  · obtain ⟨ns, rfl, hl, rfl⟩ := h
    refine s_cons ?_
    walk_at "set"
    intro v1 F1 H1 g1 S1
    refine s_cons ?_
    refine t_forR o fs S1 (by walk_at "ix") (r_1 (n := (ns.length : Int)) o.toOk0 hran ?_ (by omega)) (fun i F' σ' H' => Grow F0 H F' H' ∧ Stt M.K F' H' σ' [some (.list (ns.map PyData.int)), some (.int (Die.disC ns i)), none, none]) ?_ ?_ ?_
    · refine XD.to (d1 := .int (ns.map PyData.int).length) (by walk_at "xd") ?_
      rw [List.length_map]
    · intro F' H' g S'
      exact ⟨g1.trans g, S'.less ⟨.inr rfl, .inr rfl, .inl rfl, .inl rfl, trivial⟩⟩
    · rintro i F' σ' H' hi e1 e2 ⟨g, S'⟩
      have hi' : i < ns.length := by omega
      obtain ⟨z, hz⟩ : ∃ z, ns[i]? = some z := ⟨ns[i], by simp [hi']⟩
      have S2 := S'.set (i := 2) (v := .int (0 + (i : Int))) (d := .int (0 + (i : Int))) (.int _)
      rw [show (0 : Int) + (i : Int) = (i : Int) by omega] at S2 ⊢
      refine s_one ?_
      have hat : atI (ns.map PyData.int) (i : Int) = some (.int z) := atI_nat (by rw [List.getElem?_map, hz]; rfl)
      refine t_set (d := .int (Die.disC ns (i + 1))) o fs S2 (by walk_at "ix") ?_ ?_ (by decide +kernel)
      · refine XD.to (d1 := .int ((Die.disC ns i : Int) + ((kept (ns.take i) (fun n => decide (z < n)) PyData.int).length : Nat))) (x_add (by walk_at "xd") (x_len o.toOk0 hlen (XO.xd (o_lc o [("number", 3)] 3 PyData.int (ns.take i) (fun n => decide (z < n)) PyData.int S2.le (.inl ?_) (by decide +kernel) (by decide) rfl (by decide +kernel) (.inr ⟨_, rfl⟩) ?_ ?_ ?_)).xh (by decide +kernel))) ?_
        · refine XD.to (d1 := .list (cutD (ns.map PyData.int) none (some (i : Int)))) (XO.xd (o_slL o.toOk0 (by walk_at "var") .no (.yes (by walk_at "var")))) ?_
          rw [cut_none i (by rw [List.length_map]; omega), List.map_take]
        · rw [List.length_take]
          omega
        · intro n hm v F2 H2 g2 r
          have S3 := S2.blk (vs := [3]) (j := 3) g2 r
          exact Blk.one (fun Y oY => by walk_at "xb") fun _ Y oY => by walk_at "xd"
        · intro h
          cases h
        · show PyData.int _ = PyData.int _
          rw [show Die.disC ns (i + 1) = Die.disC ns i + Die.gr ns i from rfl, gr_eq ns i hz]
          unfold kept
          rw [List.length_map, Int.natCast_add]
      · intro v F2 H2 g2 S3
        exact ⟨F2, g2.ex, g2.le, g.trans g2, S3.less ⟨.inr rfl, .inr rfl, .inl rfl, .inl rfl, trivial⟩⟩
    · rintro F' σ' H' e1 e2 ⟨g, S'⟩
      refine s_one (t_done (E := E) S' ?_ (dn.grow g))
      refine XD.to (d1 := .int ((Die.disC ns ((ns.length : Int)).toNat : Int) % 2)) (by walk_at "xd") ?_
      unfold Die.dis
      rw [Int.toNat_natCast]
end
/-! whether a lie is right -/
def srt (ps : List Int) : List Int := ps.mergeSort fun x y => decide (x ≤ y)
theorem srt_perm (ps : List Int) : (srt ps).Perm ps := List.mergeSort_perm _ _
theorem srt_up (ps : List Int) : (srt ps).Pairwise (· ≤ ·) := by
  have h := List.pairwise_mergeSort (le := fun x y : Int => decide (x ≤ y)) (fun a b c h1 h2 => by
    simp only [decide_eq_true_eq] at *
    omega) (fun a b => by
    simp only [Bool.or_eq_true, decide_eq_true_eq]
    omega) ps
  exact h.imp fun h => of_decide_eq_true h
theorem srt_iff (ps : List Int) : (srt ps == [1, 2, 3]) = decide (ps.Perm [1, 2, 3]) := by
  by_cases h : ps.Perm [1, 2, 3]
  · rw [decide_eq_true h]
    have e : srt ps = [1, 2, 3] := sorted_the (ns := [1, 2, 3]) ((srt_perm ps).trans h) (srt_up ps) (List.Perm.refl _) (by decide)
    rw [e]
    rfl
  · rw [decide_eq_false h]
    cases e : srt ps == [1, 2, 3] with
    | false => rfl
    | true =>
      have e' : srt ps = [1, 2, 3] := by simpa using e
      exact absurd ((e' ▸ (srt_perm ps)).symm) h
theorem outside_no {a b c : Int} (h : decide ((0 : Int) < ((kept [a, b, c] (fun z => !Die.inR z) PyData.int).length : Nat)) = false) : Die.inR a = true ∧ Die.inR b = true ∧ Die.inR c = true := by
  have h0 := of_decide_eq_false h
  have hl : (kept [a, b, c] (fun z => !Die.inR z) PyData.int).length = 0 := by omega
  unfold kept at hl
  rw [List.length_map] at hl
  have hn := List.eq_nil_of_length_eq_zero hl
  rw [List.filter_eq_nil_iff] at hn
  refine ⟨?_, ?_, ?_⟩
  · have := hn a (by simp)
    simpa using this
  · have := hn b (by simp)
    simpa using this
  · have := hn c (by simp)
    simpa using this
theorem outside_yes {a b c : Int} (h : decide ((0 : Int) < ((kept [a, b, c] (fun z => !Die.inR z) PyData.int).length : Nat)) = true) : Die.isLie (a, b, c) = false := by
  cases e : Die.isLie (a, b, c) with
  | false => rfl
  | true =>
    obtain ⟨h1, h2, h3⟩ := Die.lie_in e
    have h0 := of_decide_eq_true h
    have hz : (kept [a, b, c] (fun z => !Die.inR z) PyData.int).length = 0 := by
      unfold kept
      rw [List.length_map, List.filter_eq_nil_iff.mpr]
      · rfl
      · intro z hz
        simp only [List.mem_cons, List.not_mem_nil, or_false] at hz
        rcases hz with rfl | rfl | rfl
        · simpa using h1
        · simpa using h2
        · simpa using h3
    omega
def rIsLie (ds : List PyData) (r : Out) : Prop := ∃ a b c : Int, ds = [tl a b c] ∧ r = .val (.bool (Die.isLie (a, b, c)))
local macro_rules | `(tactic| walk_at "rel") => `(tactic| first
  | exact ⟨_, _, _, rfl, by assumption, by assumption, by assumption, rfl⟩
  | exact ⟨[_, _, _], rfl, by show 3 ≤ 1000; decide, rfl⟩
  | exact ⟨_, _, _, rfl, rfl⟩)
section
variable {M : Md}
theorem fc_is_lie {f : Addr} {fd : FuncData} (F : Fun M.K "is_lie" "is_lie" s_is_lie f fd) (gm : M.mg "is_lie" = some (.ref f)) (bd : Binds M.K fd ["lie"] [])
    (hlen : M.mg "len" = none) (hsor : M.mg "sorted" = none) (cP : Fc M CX0 "pairs_of" 1 (spG M.K rPairs)) (cD : Fc M CX0 "disorder" 1 (spG M.K rDis)) : Fc M CX0 "is_lie" 2 (spG M.K rIsLie) := by
  refine fc_of F gm bd sc_is_lie (fun ds r h => ?_) (by decide) fun X o fs ds r h F0 H σ Q E S dn => ?_
  · obtain ⟨a, b, c, rfl, _⟩ := h
    rfl
  · obtain ⟨a, b, c, rfl, rfl⟩ := h
    refine s_cons ?_
    refine' t_if (c := decide ((0 : Int) < ((kept [a, b, c] (fun z => !Die.inR z) PyData.int).length : Nat)) || !(srt (Die.prs (a, b, c)) == [1, 2, 3])) S (XW.xb (w_or ?c1 fun h => w_or1 ?c2)) ?t ?f
    case c1 =>
      refine b_gt (XD.xh (x_len o.toOk0 hlen (XO.xd (o_lc o [("number", 1)] 1 PyData.int [a, b, c] (fun z => !Die.inR z) PyData.int S.le (.inr (by walk_at "xd")) (by decide +kernel) (by decide) rfl (by decide +kernel) (.inr ⟨_, rfl⟩) (by show 3 < 100000; decide) (fun z hm v F1 H1 g r => ?_) ?_)).xh (by decide +kernel))) x_int.xh
      · have S' := S.blk (vs := [1]) (j := 1) g r
        exact Blk.one (fun Y oY => by walk_at "xb") fun _ Y oY => by walk_at "xd"
      · intro h
        cases h
    case c2 =>
      obtain ⟨ha, hb, hc⟩ := outside_no h
      have ha := Die.inR_of ha
      have hb := Die.inR_of hb
      have hc := Die.inR_of hc
      refine XB.to (b_ne (d1 := .list ((srt (Die.prs (a, b, c))).map PyData.int)) (d2 := .list ([1, 2, 3].map PyData.int)) o (XD.xh (XO.xd (o_sortedI (ns := Die.prs (a, b, c)) o.toOk0 hsor (XO.xd ?_) (srt_perm _) (srt_up _)))) ?_ (pl_ints _) rfl) ?_
      · walk_at "ocall"
      · walk_at "xh"
      · rw [← eqv_ints]
        rfl
    case t =>
      intro h F' H' g S'
      have e : Die.isLie (a, b, c) = false := by
        cases h1 : decide ((0 : Int) < ((kept [a, b, c] (fun z => !Die.inR z) PyData.int).length : Nat)) with
        | true => exact outside_yes h1
        | false =>
          rw [h1, Bool.false_or, srt_iff] at h
          unfold Die.isLie
          have h2 : decide ((Die.prs (a, b, c)).Perm [1, 2, 3]) = false := by simpa using h
          rw [h2, Bool.and_false, Bool.false_and]
      rw [e] at dn
      exact s_one (t_done (E := E) S' (by walk_at "xd") (dn.grow g))
    case f =>
      intro h F' H' g S'
      refine s_nil ?_
      simp only [Bool.or_eq_false_iff] at h
      obtain ⟨h1, h2⟩ := h
      obtain ⟨ia, ib, ic⟩ := outside_no h1
      have ha := Die.inR_of ia
      have hb := Die.inR_of ib
      have hc := Die.inR_of ic
      rw [srt_iff] at h2
      have hp : decide ((Die.prs (a, b, c)).Perm [1, 2, 3]) = true := by simpa using h2
      refine s_cons ?_
      refine t_set o fs S' (d := .int ((kept [a, b, c] (fun n => decide (3 < n)) PyData.int).length : Nat)) (by walk_at "ix") (x_len o.toOk0 hlen (XO.xd (o_lc o [("number", 1)] 1 PyData.int [a, b, c] (fun z => decide (3 < z)) PyData.int S'.le (.inr (by walk_at "xd")) (by decide +kernel) (by decide) rfl (by decide +kernel) (.inr ⟨_, rfl⟩) (by show 3 < 100000; decide) (fun z hm v F1 H1 g r => ?_) ?_)).xh (by decide +kernel)) ?_ (by decide +kernel)
      · have S2 := S'.blk (vs := [1]) (j := 1) g r
        exact Blk.one (fun Y oY => by walk_at "xb") fun _ Y oY => by walk_at "xd"
      · intro h
        cases h
      · intro v F2 H2 g2 S2
        refine s_one (t_done (E := E) S2 ?_ ((dn.grow g).grow g2))
        have e : Die.isLie (a, b, c) = (((kept [a, b, c] (fun n => decide (3 < n)) PyData.int).length : Int) % 2 == Die.dis (Die.prs (a, b, c))) := by
          unfold Die.isLie
          rw [hp]
          simp only [ia, ib, ic, Bool.true_and, Bool.and_true]
          unfold Die.great kept Die.lst
          rw [List.length_map, Bool.beq_eq_decide_eq]
        rw [e]
        walk_at "xdt"

/-- must_be_lie(lie): nothing, or NoLie -/
def rMust (C : Addr) (ds : List PyData) (r : Out) : Prop := ∃ a b c : Int, ds = [tl a b c] ∧ ((Die.isLie (a, b, c) = true ∧ r = .val .none) ∨ (Die.isLie (a, b, c) = false ∧ r = .err C))
end
section
variable {M : Md}
theorem fc_must_be_lie {f C : Addr} {fd : FuncData} (F : Fun M.K "must_be_lie" "must_be_lie" s_must_be_lie f fd) (gm : M.mg "must_be_lie" = some (.ref f)) (bd : Binds M.K fd ["lie"] [])
    (ec : Ec M "NoLie" C) (cI : Fc M CX0 "is_lie" 2 (spG M.K rIsLie)) : Fc M (L2.CX M.P M.w) "must_be_lie" 3 (spG M.K (rMust C)) := by
  refine fc_ofX F gm bd sc_must_be_lie (fun ds r h => ?_) (by decide) fun X E o fs tk ds r h F0 H σ Q S dn => ?_
  · obtain ⟨a, b, c, rfl, _⟩ := h
    rfl
  · obtain ⟨a, b, c, rfl, h⟩ := h
    refine s_cons ?_
    refine' t_if (c := !Die.isLie (a, b, c)) S (b_not (b_val ?c1)) ?t ?f
    case c1 => walk_at "xd"
    case t =>
      intro hc F' H' g S'
      rcases h with ⟨h, rfl⟩ | ⟨h, rfl⟩
      · rw [h] at hc
        cases hc
      · exact s_one (t_raise o tk PySem.F.excBase_ValueError ec.xc ec.g ec.kp ec.sb ec.ty (dn F' H' g))
    case f =>
      intro hc F' H' g S'
      rcases h with ⟨h, rfl⟩ | ⟨h, rfl⟩
      · exact s_nil (s_nil (dn _ F' H' g .non))
      · rw [h] at hc
        cases hc
end
end Roll

namespace Roll
open PySem L2 Lay
/-! must_be_floor -/
def shortF (f : Flo.Rows) : Prop := f.length ≤ 1000 ∧ ∀ r ∈ f, r.length ≤ 1000
def rMustF (C : Addr) (ds : List PyData) (r : Out) : Prop := ∃ f : Flo.Rows, shortF f ∧ ds = [fl f] ∧ r = if Flo.okF f = true then .val .none else .err C
theorem okF_no {f : Flo.Rows} {r : List Nat} (hr : r ∈ f) (h : Flo.okRow (Flo.wid f) r = false) : Flo.okF f = false := by
  cases e : Flo.okF f with
  | false => rfl
  | true =>
    have := (Flo.okF_of e).2.2 r hr
    rw [h] at this
    cases this
theorem head_at {f : Flo.Rows} (h : 1 ≤ f.length) : ∃ r0, atI (f.map tS) 0 = some (tS r0) ∧ r0.length = Flo.wid f ∧ r0 ∈ f := by
  cases f with
  | nil => cases h
  | cons r t => exact ⟨r, atI_nat (j := 0) (show ((r :: t).map tS)[0]? = some (tS r) by rw [List.getElem?_map]; rfl), rfl, List.mem_cons_self⟩
section
variable {M : Md} {C : Addr}
theorem fc_must_be_floor {f : Addr} {fd : FuncData} (F : Fun M.K "must_be_floor" "must_be_floor" s_must_be_floor f fd) (gm : M.mg "must_be_floor" = some (.ref f)) (bd : Binds M.K fd ["floor"] [])
    (hlen : M.mg "len" = none) (hM : Gc M "MOST" (.int 8)) (ec : Ec M "NoFloor" C) : Fc M (L2.CX M.P M.w) "must_be_floor" 1 (spG M.K (rMustF C)) := by
  refine fc_ofX F gm bd sc_must_be_floor (fun ds r h => ?_) (by decide) fun X E o fs tk ds r h F0 H σ Q S dn => ?_
  · obtain ⟨f, _, rfl, _⟩ := h
    rfl
  · obtain ⟨f, ⟨hs1, hs2⟩, rfl, rfl⟩ := h
    refine s_cons ?_
    have hlf : ((f.map tS).length : Nat) = f.length := List.length_map tS
    refine' t_if (c := !(decide ((1 : Int) ≤ ((f.map tS).length : Nat)) && decide ((((f.map tS).length : Nat) : Int) ≤ 8))) S (b_not (b_lele x_int (x_len o.toOk0 hlen ?a (by decide +kernel)) ?b)) ?t ?f
    case a => walk_at "xh"
    case b => walk_at "xd"
    case t =>
      intro hc F1 H1 g1 S1
      have e : Flo.okF f = false := by
        cases e : Flo.okF f with
        | false => rfl
        | true =>
          obtain ⟨a, b, _⟩ := Flo.okF_of e
          rw [decide_eq_true (show (1 : Int) ≤ ((f.map tS).length : Nat) by omega), decide_eq_true (show (((f.map tS).length : Nat) : Int) ≤ 8 by omega)] at hc
          cases hc
      rw [e, if_neg Bool.false_ne_true] at dn
      exact s_one (t_raise o tk PySem.F.excBase_ValueError ec.xc ec.g ec.kp ec.sb ec.ty (dn F1 H1 g1))
    case f =>
      intro hc F1 H1 g1 S1
      have h18 : 1 ≤ f.length ∧ f.length ≤ 8 := by
        rw [Bool.not_eq_false', Bool.and_eq_true, decide_eq_true_eq, decide_eq_true_eq] at hc
        omega
      have dn := dn.grow g1
      obtain ⟨r0, hr0, hw, hm0⟩ := head_at h18.1
      have hb0 := hs2 r0 hm0
      have hz0 : (tx r0).length ≤ 100000 := by rw [tx_len]; omega
      refine s_nil (s_one ?_)
      refine t_for o fs S1 (by walk_at "ix") tS f (.inl (by walk_at "xd")) (fun i F' σ' H' => (Grow F1 H1 F' H' ∧ Stt M.K F' H' σ' [some (fl f), none, none]) ∧ (f.take i).all (Flo.okRow (Flo.wid f)) = true) ?_ ?_ ?_
      · intro F' H' g S'
        exact ⟨⟨g, S'.less ⟨.inr rfl, .inl rfl, .inl rfl, trivial⟩⟩, rfl⟩
      · rintro i r v F' σ' H' hi e1 e2 ⟨⟨g, S'⟩, ok⟩ rv
        have hmr : r ∈ f := List.mem_of_getElem? hi
        have hbr := hs2 r hmr
        have hz : (tx r).length ≤ 100000 := by rw [tx_len]; omega
        have S2 := S'.set (i := 1) rv
        refine s_cons ?_
        refine' t_if (c := !(decide ((1 : Int) ≤ ((tx r).length : Nat)) && decide ((((tx r).length : Nat) : Int) ≤ 8)) || !((((tx r).length : Nat) : Int) == (((tx r0).length : Nat) : Int))) S2 (XW.xb (w_or (b_not (b_lele x_int (x_lenS o.toOk0 hlen ?a1 hz (by decide +kernel)) ?b1)) fun _ => w_or1 (b_ne o (XD.xh (x_lenS o.toOk0 hlen ?a2 hz (by decide +kernel))) (XD.xh (x_lenS o.toOk0 hlen (XD.xh (x_ixL o.toOk0 ?b2 x_int hr0)) hz0 (by decide +kernel))) rfl rfl))) ?t1 ?f1
        case a1 => walk_at "xh"
        case b1 => walk_at "xd"
        case a2 => walk_at "xh"
        case b2 => walk_at "xd"
        case t1 =>
          intro hc F3 H3 g3 S3
          have e : Flo.okF f = false := by
            refine okF_no hmr ?_
            cases e : Flo.okRow (Flo.wid f) r with
            | false => rfl
            | true =>
              obtain ⟨a, b, c, _⟩ := Flo.okRow_len e
              rw [tx_len, tx_len, decide_eq_true (show (1 : Int) ≤ (r.length : Nat) by omega), decide_eq_true (show ((r.length : Nat) : Int) ≤ 8 by omega), show r.length = r0.length by omega, beq_self_eq_true] at hc
              cases hc
          rw [e, if_neg Bool.false_ne_true] at dn
          exact s_one (t_raise o tk PySem.F.excBase_ValueError ec.xc ec.g ec.kp ec.sb ec.ty (dn F3 H3 (g.trans g3)))
        case f1 =>
          intro hc F3 H3 g3 S3
          have hr : (1 ≤ r.length ∧ r.length ≤ 8) ∧ r.length = Flo.wid f := by
            rw [tx_len, tx_len, Bool.or_eq_false_iff, Bool.not_eq_false', Bool.not_eq_false', Bool.and_eq_true, decide_eq_true_eq, decide_eq_true_eq, beq_iff_eq] at hc
            omega
          refine s_nil (s_one ?_)
          refine t_forS o fs S3 (by walk_at "ix") (tx r) (by walk_at "xd") (fun j F4 σ4 H4 => (Grow F1 H1 F4 H4 ∧ Stt M.K F4 H4 σ4 [some (fl f), some (tS r), none]) ∧ (r.take j).all Flo.isSign = true) ?_ ?_ ?_
          · intro F4 H4 g4 S4
            exact ⟨⟨(g.trans g3).trans g4, S4.less ⟨.inr rfl, .inr rfl, .inl rfl, trivial⟩⟩, rfl⟩
          · rintro j c F4 σ4 H4 hj e3 e4 ⟨⟨g4, S4⟩, okj⟩
            have hj' := tx_at hj
            have S5 := S4.set (i := 2) (v := .str ⟨#[c]⟩) (d := .str ⟨#[c]⟩) (.str _)
            refine s_one ?_
            refine' t_if (c := !Flo.isSign c) S5 (XB.to (b_ninS (z := ".#") ?a3 x_str) ?e3) ?t3 ?f3
            case a3 => walk_at "xd"
            case e3 =>
              rw [signs_list]
              rfl
            case t3 =>
              intro hc F6 H6 g6 S6
              have hc : Flo.isSign c = false := by rw [Bool.not_eq_true'] at hc; exact hc
              have e : Flo.okF f = false := by
                refine okF_no hmr ?_
                cases e : Flo.okRow (Flo.wid f) r with
                | false => rfl
                | true =>
                  have h5 := List.all_eq_true.mp (Flo.okRow_len e).2.2.2 c (List.mem_of_getElem? hj')
                  rw [hc] at h5
                  cases h5
              rw [e, if_neg Bool.false_ne_true] at dn
              exact s_one (t_raise o tk PySem.F.excBase_ValueError ec.xc ec.g ec.kp ec.sb ec.ty (dn F6 H6 (g4.trans g6)))
            case f3 =>
              intro hc F6 H6 g6 S6
              have hc : Flo.isSign c = true := by rw [Bool.not_eq_false'] at hc; exact hc
              refine s_nil ⟨F6, g6.ex, g6.le, ⟨g4.trans g6, S6.less ⟨.inr rfl, .inr rfl, .inl rfl, trivial⟩⟩, ?_⟩
              rw [take_snoc hj', List.all_append, okj]
              show (true && (Flo.isSign c && true)) = true
              rw [hc]
              rfl
          · rintro F4 σ4 H4 e3 e4 ⟨⟨g4, S4⟩, okj⟩
            rw [tx_size, List.take_of_length_le (Nat.le_refl _)] at okj
            refine ⟨F4, g3.ex.trans e3, e4, ⟨g4, S4.less ⟨.inr rfl, .inl rfl, .inl rfl, trivial⟩⟩, ?_⟩
            have er : Flo.okRow (Flo.wid f) r = true := by
              unfold Flo.okRow
              rw [okj, decide_eq_true hr.1.1, decide_eq_true hr.1.2, decide_eq_true hr.2]
              rfl
            rw [take_snoc hi, List.all_append, ok]
            show (true && (Flo.okRow (Flo.wid f) r && true)) = true
            rw [er]
            rfl
      · rintro F' σ' H' e1 e2 ⟨⟨g, S'⟩, ok⟩
        rw [List.take_of_length_le (Nat.le_refl _)] at ok
        have e : Flo.okF f = true := by
          unfold Flo.okF
          rw [ok, decide_eq_true h18.1, decide_eq_true h18.2]
          rfl
        rw [e, if_pos rfl] at dn
        exact dn _ F' H' g .non
end
end Roll

namespace Roll
open PySem L2 Lay
/-! floors as data: lengths, codes, equality -/
theorem row_len {f : Flo.Rows} (h : Flo.okF f = true) {r : List Nat} (hr : r ∈ f) : 1 ≤ r.length ∧ r.length ≤ 8 := by
  have := Flo.okRow_len ((Flo.okF_of h).2.2 r hr)
  exact ⟨this.2.1, this.2.2.1⟩
def codesF (f : Flo.Rows) : Prop := ∀ r ∈ f, ∀ c ∈ r, c < 1114112
theorem sign_code {c : Nat} (h : Flo.isSign c = true) : c < 1114112 := by
  unfold Flo.isSign at h
  have := of_decide_eq_true h
  simp only [List.mem_cons, List.not_mem_nil, or_false] at this
  omega
theorem okF_codes {f : Flo.Rows} (h : Flo.okF f = true) : codesF f := fun r hr c hc => sign_code (List.all_eq_true.mp (Flo.okRow_len ((Flo.okF_of h).2.2 r hr)).2.2.2 c hc)
theorem tx_ok {r : List Nat} (h : ∀ c ∈ r, c < 1114112) : (PyData.str (tx r)).canLay0 = true := by
  show (tx r).cps.all (· < 1114112) = true
  unfold tx
  rw [List.all_toArray]
  exact List.all_eq_true.mpr fun c hc => decide_eq_true (h c hc)
theorem pl_fl {f : Flo.Rows} (h : codesF f) : Pl (fl f) := pl_list fun d hd => by
  obtain ⟨r, hr, rfl⟩ := List.mem_map.mp hd
  exact tx_ok (h r hr)
theorem eqv_str (z : Str) : PyData.eqv (.str z) (.str z) = true := by
  show (z == z) = true
  simp
theorem eqvAll_tS : ∀ f : Flo.Rows, PyData.eqvAll (f.map tS) (f.map tS) = true
  | [] => rfl
  | r :: t => by
    show (PyData.eqv (tS r) (tS r) && PyData.eqvAll (t.map tS) (t.map tS)) = true
    rw [eqv_str, eqvAll_tS t]
    rfl
theorem okF_short {f : Flo.Rows} (h : Flo.okF f = true) : shortF f := by
  obtain ⟨h1, h2, h3⟩ := Flo.okF_of h
  refine ⟨by omega, fun r hr => ?_⟩
  have := row_len h hr
  omega
def cellsTo (f : Flo.Rows) (n : Nat) : List Sta.P2 := (List.range n).flatMap fun i => ((List.range (Flo.wid f)).filter fun j : Nat => decide (Sta.sgn f i j = 46)).map fun j : Nat => ((i : Int), (j : Int))
theorem cellsTo_snoc (f : Flo.Rows) (n : Nat) : cellsTo f (n + 1) = cellsTo f n ++ ((List.range (Flo.wid f)).filter fun j : Nat => decide (Sta.sgn f n j = 46)).map fun j : Nat => ((n : Int), (j : Int)) := by
  unfold cellsTo
  rw [List.range_succ, List.flatMap_append]
  simp
theorem cellsTo_len (f : Flo.Rows) (n : Nat) : (cellsTo f n).length ≤ Flo.wid f * n := by
  induction n with
  | zero => exact Nat.zero_le _
  | succ n ih =>
    rw [cellsTo_snoc, List.length_append, List.length_map, Nat.mul_succ]
    have := List.length_filter_le (fun j : Nat => decide (Sta.sgn f n j = 46)) (List.range (Flo.wid f))
    rw [List.length_range] at this
    omega
theorem wid_le {f : Flo.Rows} (h : Flo.okF f = true) : 1 ≤ Flo.wid f ∧ Flo.wid f ≤ 8 := by
  obtain ⟨h1, _, _⟩ := Flo.okF_of h
  obtain ⟨r0, _, hw, hm⟩ := head_at h1
  have := row_len h hm
  omega
theorem cells_len {f : Flo.Rows} (h : Flo.okF f = true) : (Sta.cells f).length ≤ 64 := by
  have h1 := cellsTo_len f f.length
  have h2 := (wid_le h).2
  have h3 := (Flo.okF_of h).2.1
  have : Flo.wid f * f.length ≤ 8 * 8 := Nat.mul_le_mul h2 h3
  exact Nat.le_trans h1 this
end Roll

namespace Roll
open PySem L2 Lay
section
variable {M : Md} {C : Addr}
theorem fc_rolled_by {f : Addr} {fd : FuncData} (F : Fun M.K "rolled_by" "rolled_by" s_rolled_by f fd) (gm : M.mg "rolled_by" = some (.ref f)) (bd : Binds M.K fd ["lie", "roll"] []) : Fc M CX0 "rolled_by" 1 (spG M.K rRoll) := by
  refine fc_of F gm bd sc_rolled_by (fun ds r h => ?_) (by decide) fun X o fs ds r h F0 H σ Q E S dn => ?_
  · obtain ⟨a, b, c, g, rfl, _⟩ := h
    rfl
  · obtain ⟨a, b, c, u, rfl, rfl⟩ := h
    refine s_cons (t_unpack3 o fs S (by walk_at "ix") (by walk_at "ix") (by walk_at "ix") (by walk_at "xd") (fun v1 v2 v3 F1 H1 g1 S1 => ?_) (by decide +kernel) (by decide +kernel) (by decide +kernel))
    have dn := dn.grow g1
    refine s_cons ?_
    walk_at "if"
    · intro hc F' H' g S'
      rw [sign_n, sign_eq] at hc
      have hc := of_decide_eq_true hc
      refine s_one (t_done (E := E) S' ?_ (dn.grow g))
      unfold Die.roll
      rw [if_pos hc]
      walk_at "xdt"
    · intro hc F' H' g S'
      rw [sign_n, sign_eq] at hc
      have n1 := of_decide_eq_false hc
      refine s_nil (s_cons ?_)
      walk_at "if"
      · intro hc F2 H2 g2 S'
        rw [sign_s, sign_eq] at hc
        have hc := of_decide_eq_true hc
        refine s_one (t_done (E := E) S' ?_ ((dn.grow g).grow g2))
        unfold Die.roll
        rw [if_neg n1, if_pos hc]
        walk_at "xdt"
      · intro hc F2 H2 g2 S'
        rw [sign_s, sign_eq] at hc
        have n2 := of_decide_eq_false hc
        refine s_nil (s_cons ?_)
        walk_at "if"
        · intro hc F3 H3 g3 S'
          rw [sign_e, sign_eq] at hc
          have hc := of_decide_eq_true hc
          refine s_one (t_done (E := E) S' ?_ (((dn.grow g).grow g2).grow g3))
          unfold Die.roll
          rw [if_neg n1, if_neg n2, if_pos hc]
          walk_at "xdt"
        · intro hc F3 H3 g3 S'
          rw [sign_e, sign_eq] at hc
          have n3 := of_decide_eq_false hc
          refine s_nil (s_one (t_done (E := E) S' ?_ (((dn.grow g).grow g2).grow g3)))
          unfold Die.roll
          rw [if_neg n1, if_neg n2, if_neg n3]
          walk_at "xdt"
end
end Roll

namespace Roll
open PySem L2 Lay
/-! is_cell, must_be_cell, must_be_stand, next_stand -/
def rIsCell (ds : List PyData) (r : Out) : Prop := ∃ (f : Flo.Rows) (p : Sta.P2), Flo.okF f = true ∧ ds = [fl f, tP p] ∧ r = .val (.bool (Sta.isCell f p))
def rMustC (C : Addr) (ds : List PyData) (r : Out) : Prop := ∃ (f : Flo.Rows) (p : Sta.P2), Flo.okF f = true ∧ ds = [fl f, tP p] ∧ r = if Sta.isCell f p = true then .val .none else .err C
def rMustS (C1 C2 : Addr) (ds : List PyData) (r : Out) : Prop := ∃ (f : Flo.Rows) (s : Sta.Sd), Flo.okF f = true ∧ ds = [fl f, tSd s] ∧ r = if Sta.isCell f s.1 = true then (if Die.isLie s.2 = true then .val .none else .err C2) else .err C1
abbrev oS (o : Option Sta.Sd) : PyData := match o with
  | none => .none
  | some s => tSd s
def rNext (ds : List PyData) (r : Out) : Prop := ∃ (f : Flo.Rows) (s : Sta.Sd) (c : Nat), (Flo.okF f = true ∧ decide (c ∈ ([101, 110, 115, 119] : List Nat)) = true) ∧ ds = [fl f, tSd s, .str ⟨#[c]⟩] ∧ r = .val (oS (Sta.next f s c))
theorem row_at {f : Flo.Rows} {i : Nat} (h : i < f.length) : ∃ r, atI (f.map tS) (i : Int) = some (tS r) ∧ r ∈ f ∧ f.getD i [] = r := by
  refine ⟨f[i], ?_, List.getElem_mem h, ?_⟩
  · exact atI_nat (by rw [List.getElem?_map, List.getElem?_eq_getElem h]; rfl)
  · rw [List.getD_eq_getElem?_getD, List.getElem?_eq_getElem h]
    rfl
theorem sign_at {f : Flo.Rows} {i j : Nat} {r : List Nat} (hr : f.getD i [] = r) (h : j < r.length) : atI (tx r).cps.toList (j : Int) = some (Sta.sgn f i j) := by
  rw [tx_list]
  refine atI_nat ?_
  unfold Sta.sgn
  rw [hr, List.getD_eq_getElem?_getD, List.getElem?_eq_getElem h]
  rfl
theorem wid_row {f : Flo.Rows} (h : Flo.okF f = true) {r : List Nat} (hr : r ∈ f) : r.length = Flo.wid f := (Flo.okRow_len ((Flo.okF_of h).2.2 r hr)).1
section
variable {M : Md} {C1 C2 : Addr}
theorem fc_is_cell {f : Addr} {fd : FuncData} (F : Fun M.K "is_cell" "is_cell" s_is_cell f fd) (gm : M.mg "is_cell" = some (.ref f)) (bd : Binds M.K fd ["floor", "place"] [])
    (hlen : M.mg "len" = none) : Fc M CX0 "is_cell" 1 (spG M.K rIsCell) := by
  refine fc_of F gm bd sc_is_cell (fun ds r h => ?_) (by decide) fun X o fs ds r h F0 H σ Q E S dn => ?_
  · obtain ⟨f, p, _, rfl, _⟩ := h
    rfl
  · obtain ⟨f, p, hf, rfl, rfl⟩ := h
    obtain ⟨a, b⟩ := p
    obtain ⟨hl1, hl2, _⟩ := Flo.okF_of hf
    have hlm : ((f.map tS).length : Nat) = f.length := List.length_map tS
    obtain ⟨r0, hr0, hw0, hm0⟩ := head_at hl1
    have hz0 : (tx r0).length ≤ 100000 := by rw [tx_len]; have := row_len hf hm0; omega
    generalize hc1 : (decide ((0 : Int) ≤ a) && decide (a < ((f.map tS).length : Nat))) = c1
    generalize hc2 : (decide ((0 : Int) ≤ b) && decide (b < ((tx r0).length : Nat))) = c2
    refine s_cons ?_
    refine' t_if (c := !c1 || !c2) S (XW.xb (w_or (XB.to (b_not (b_lelt (i := 0) (j := a) (l := ((f.map tS).length : Nat)) x_int ?a1 (x_len o.toOk0 hlen ?a2 (by decide +kernel)))) (by rw [hc1])) fun _ => w_or1 (XB.to (b_not (b_lelt (i := 0) (j := b) (l := ((tx r0).length : Nat)) x_int ?a3 (x_lenS o.toOk0 hlen (XD.xh (x_ixL (ds := f.map tS) o.toOk0 ?a4 x_int hr0)) hz0 (by decide +kernel)))) (by rw [hc2])))) ?t ?f
    case a1 => walk_at "xd"
    case a2 => walk_at "xh"
    case a3 => walk_at "xd"
    case a4 => walk_at "xd"
    case t =>
      intro hc F1 H1 g1 S1
      have e : Sta.isCell f (a, b) = false := by
        unfold Sta.isCell
        rw [tx_len, hw0] at hc2
        rw [hlm] at hc1
        show (decide (0 ≤ a) && decide (a < (f.length : Nat)) && (decide (0 ≤ b) && decide (b < (Flo.wid f : Nat))) && _) = false
        rw [hc1, hc2]
        rw [Bool.or_eq_true, Bool.not_eq_true', Bool.not_eq_true'] at hc
        rcases hc with h | h <;> rw [h] <;> simp
      rw [e] at dn
      exact s_one (t_done (E := E) S1 (by walk_at "xd") (dn.grow g1))
    case f =>
      intro hc F1 H1 g1 S1
      rw [Bool.or_eq_false_iff, Bool.not_eq_false', Bool.not_eq_false'] at hc
      obtain ⟨h1, h2⟩ := hc
      rw [h1] at hc1
      rw [h2] at hc2
      have e : Sta.isCell f (a, b) = decide (Sta.sgn f a.toNat b.toNat = 46) := by
        unfold Sta.isCell
        rw [tx_len, hw0] at hc2
        rw [hlm] at hc1
        show (decide (0 ≤ a) && decide (a < (f.length : Nat)) && (decide (0 ≤ b) && decide (b < (Flo.wid f : Nat))) && _) = _
        rw [hc1, hc2]
        simp
      simp only [Bool.and_eq_true, decide_eq_true_eq] at hc1 hc2
      obtain ⟨i, hi⟩ := Int.eq_ofNat_of_zero_le hc1.1
      obtain ⟨j, hj⟩ := Int.eq_ofNat_of_zero_le hc2.1
      subst hi hj
      obtain ⟨r, hr, hmr, hgr⟩ := row_at (f := f) (i := i) (by omega)
      have hwr := wid_row hf hmr
      have hjr : j < r.length := by
        have := hc2.2
        rw [tx_len, hw0] at this
        omega
      have hs := sign_at hgr hjr
      have hz : (tx r).length ≤ 100000 := by rw [tx_len]; have := row_len hf hmr; omega
      rw [e] at dn
      refine s_nil (s_one (t_done (E := E) S1 ?_ (dn.grow g1)))
      refine XD.to (x_eqS (y := ⟨#[Sta.sgn f i j]⟩) (z := ".") (XD.xh (x_ixS (z := tx r) (x_ixL (ds := f.map tS) o.toOk0 ?b1 ?b2 hr) ?b3 hz hs)) x_str.xh) ?b4
      case b1 => walk_at "xd"
      case b2 => walk_at "xd"
      case b3 => walk_at "xd"
      case b4 =>
        rw [sign_dot, sign_eq]
        rfl
end
local macro_rules | `(tactic| walk_at "rel") => `(tactic| first
  | exact ⟨_, _, by assumption, rfl, rfl⟩
  | exact ⟨_, (_, _), by assumption, rfl, rfl⟩
  | exact ⟨_, _, _, _, rfl, rfl⟩)
section
variable {M : Md} {C1 C2 : Addr}
theorem fc_must_be_cell {f : Addr} {fd : FuncData} (F : Fun M.K "must_be_cell" "must_be_cell" s_must_be_cell f fd) (gm : M.mg "must_be_cell" = some (.ref f)) (bd : Binds M.K fd ["floor", "place"] [])
    (ec : Ec M "NoCell" C1) (cI : Fc M CX0 "is_cell" 1 (spG M.K rIsCell)) : Fc M (L2.CX M.P M.w) "must_be_cell" 2 (spG M.K (rMustC C1)) := by
  refine fc_ofX F gm bd sc_must_be_cell (fun ds r h => ?_) (by decide) fun X E o fs tk ds r h F0 H σ Q S dn => ?_
  · obtain ⟨f, p, _, rfl, _⟩ := h
    rfl
  · obtain ⟨f, p, hf, rfl, rfl⟩ := h
    refine s_one ?_
    refine' t_if (c := !Sta.isCell f p) S (b_not (b_val (x_call o cI pz0 ?a ⟨_, p, hf, rfl, rfl⟩ (by decide) (by decide +kernel)))) ?t ?f
    case a => walk_at "xa"
    case t =>
      intro hc F1 H1 g1 S1
      rw [Bool.not_eq_true'] at hc
      rw [hc, if_neg Bool.false_ne_true] at dn
      exact s_one (t_raise o tk PySem.F.excBase_ValueError ec.xc ec.g ec.kp ec.sb ec.ty (dn F1 H1 g1))
    case f =>
      intro hc F1 H1 g1 S1
      rw [Bool.not_eq_false'] at hc
      rw [hc, if_pos rfl] at dn
      exact s_nil (dn _ F1 H1 g1 .non)
theorem fc_must_be_stand {f : Addr} {fd : FuncData} (F : Fun M.K "must_be_stand" "must_be_stand" s_must_be_stand f fd) (gm : M.mg "must_be_stand" = some (.ref f)) (bd : Binds M.K fd ["floor", "stand"] [])
    (cC : Fc M (L2.CX M.P M.w) "must_be_cell" 2 (spG M.K (rMustC C1))) (cL : Fc M (L2.CX M.P M.w) "must_be_lie" 3 (spG M.K (rMust C2))) : Fc M (L2.CX M.P M.w) "must_be_stand" 4 (spG M.K (rMustS C1 C2)) := by
  refine fc_ofX F gm bd sc_must_be_stand (fun ds r h => ?_) (by decide) fun X E o fs tk ds r h F0 H σ Q S dn => ?_
  · obtain ⟨f, p, _, rfl, _⟩ := h
    rfl
  · obtain ⟨f, s, hf, rfl, rfl⟩ := h
    refine s_cons ?_
    refine s_must o tk S cC (by walk_at "xa") ⟨f, s.1, hf, rfl, rfl⟩ (by decide) (by decide +kernel) (by decide +kernel) ?_
    cases h1 : Sta.isCell f s.1 with
    | false =>
      rw [h1, if_neg Bool.false_ne_true] at dn
      rw [if_neg Bool.false_ne_true]
      exact dn
    | true =>
      rw [h1, if_pos rfl] at dn
      rw [if_pos rfl]
      intro v F1 H1 g1 _
      have S1 := S.grow g1
      have dn := dn.grow g1
      refine s_one ?_
      cases h2 : Die.isLie s.2 with
      | false =>
        rw [h2, if_neg Bool.false_ne_true] at dn
        exact s_must o tk S1 cL (by walk_at "xa") ⟨s.2.1, s.2.2.1, s.2.2.2, rfl, .inr ⟨h2, rfl⟩⟩ (by decide) (by decide +kernel) (by decide +kernel) dn
      | true =>
        rw [h2, if_pos rfl] at dn
        refine s_must o tk S1 cL (by walk_at "xa") ⟨s.2.1, s.2.2.1, s.2.2.2, rfl, .inl ⟨h2, rfl⟩⟩ (by decide) (by decide +kernel) (by decide +kernel) fun v F2 H2 g2 _ => ?_
        exact dn _ F2 H2 g2 .non
theorem fc_next_stand {f : Addr} {fd : FuncData} (F : Fun M.K "next_stand" "next_stand" s_next_stand f fd) (gm : M.mg "next_stand" = some (.ref f)) (bd : Binds M.K fd ["floor", "stand", "roll"] [])
    (st : Steps M) (cI : Fc M CX0 "is_cell" 1 (spG M.K rIsCell)) (cR : Fc M CX0 "rolled_by" 1 (spG M.K rRoll)) : Fc M CX0 "next_stand" 2 (spG M.K rNext) := by
  refine fc_of F gm bd sc_next_stand (fun ds r h => ?_) (by decide) fun X o fs ds r h F0 H σ Q E S dn => ?_
  · obtain ⟨f, s, c, _, rfl, _⟩ := h
    rfl
  · obtain ⟨f, s, c, ⟨hf, hc⟩, rfl, rfl⟩ := h
    rw [← Sta.step_letter] at hc
    obtain ⟨d, hd⟩ := Option.isSome_iff_exists.mp hc
    refine s_cons (t_set (d := tP d) o fs S (by walk_at "ix") (x_ixSteps o st (by walk_at "xd") hd (by decide +kernel)) (fun v1 F1 H1 g1 S1 => ?_) (by decide +kernel))
    refine s_cons ?_
    walk_at "set"
    intro v2 F2 H2 g2 S2
    have en : Sta.next f s c = if Sta.isCell f (s.1.1 + d.1, s.1.2 + d.2) = true then some ((s.1.1 + d.1, s.1.2 + d.2), Die.roll s.2 c) else none := by
      unfold Sta.next
      rw [hd]
    rw [en] at dn
    have dn := (dn.grow g1).grow g2
    refine s_cons ?_
    refine' t_if (c := !Sta.isCell f (s.1.1 + d.1, s.1.2 + d.2)) S2 (b_not (b_val (x_call o cI pz0 ?a ⟨_, (s.1.1 + d.1, s.1.2 + d.2), hf, rfl, rfl⟩ (by decide) (by decide +kernel)))) ?t ?f
    case a => walk_at "xa"
    case t =>
      intro hc F3 H3 g3 S3
      rw [Bool.not_eq_true'] at hc
      rw [hc, if_neg Bool.false_ne_true] at dn
      exact s_one (t_done (E := E) S3 (by walk_at "xd") (dn.grow g3))
    case f =>
      intro hc F3 H3 g3 S3
      rw [Bool.not_eq_false'] at hc
      rw [hc, if_pos rfl] at dn
      refine s_nil (s_one (t_done (E := E) S3 ?_ (dn.grow g3)))
      refine XD.to (x_tup (a_cons ?b1 (a_cons (x_call o cR pz0 ?b2 ⟨s.2.1, s.2.2.1, s.2.2.2, c, rfl, rfl⟩ (by decide) (by decide +kernel)) a_nil)) (Nat.le_of_ble_eq_true rfl)) rfl
      case b1 => walk_at "xd"
      case b2 => walk_at "xa"
end
end Roll

namespace Roll
open PySem L2 Lay
/-! distances -/
abbrev enM (p : Sta.Sd × Nat) : PyData × PyData := (tSd p.1, .int (p.2 : Int))
theorem tSd_inj {a b : Sta.Sd} (h : tSd a = tSd b) : a = b := by
  obtain ⟨⟨a1, a2⟩, a3, a4, a5⟩ := a
  obtain ⟨⟨b1, b2⟩, b3, b4, b5⟩ := b
  simp only [PyData.tuple.injEq, List.cons.injEq, PyData.int.injEq, and_true] at h
  obtain ⟨⟨rfl, rfl⟩, rfl, rfl, rfl⟩ := h
  rfl
theorem keyD_sd (s : Sta.Sd) : keyD (tSd s) := ⟨rfl, Nat.le_of_ble_eq_true rfl, _, rfl⟩
theorem key_sd {a b : Sta.Sd} : keyOf (tSd a) = keyOf (tSd b) ↔ a = b := ⟨fun h => tSd_inj (keyOf_inj rfl rfl h), fun h => by rw [h]⟩
theorem look_none {l : Bfs.Mp} {t : Sta.Sd} (h : t ∉ l.map (·.1)) : lookD (l.map enM) (tSd t) = none := by
  unfold lookD
  rw [List.find?_eq_none.mpr]
  · rfl
  · intro q hq
    obtain ⟨p, hp, rfl⟩ := List.mem_map.mp hq
    rw [decide_eq_true_eq]
    intro e
    exact h (List.mem_map.mpr ⟨p, hp, key_sd.mp e⟩)
theorem look_some {l : Bfs.Mp} (hn : (l.map (·.1)).Nodup) {t : Sta.Sd} {n : Nat} (h : (t, n) ∈ l) : lookD (l.map enM) (tSd t) = some (.int (n : Int)) := by
  induction l with
  | nil => cases h
  | cons p l ih =>
    rw [List.map_cons, List.nodup_cons] at hn
    unfold lookD
    rw [List.map_cons, List.find?_cons]
    by_cases e : p.1 = t
    · have hp : p = (t, n) := by
        rcases List.mem_cons.mp h with h | h
        · exact h.symm
        · exact absurd (List.mem_map.mpr ⟨_, h, rfl⟩) (e ▸ hn.1)
      rw [decide_eq_true (key_sd.mpr e)]
      subst hp
      rfl
    · rw [decide_eq_false (fun z => e (key_sd.mp z))]
      rcases List.mem_cons.mp h with h | h
      · exact absurd (by rw [← h]) e
      · exact ih hn.2 h
theorem put_new {l : Bfs.Mp} {t : Sta.Sd} {n : Nat} {z : Int} (h : t ∉ l.map (·.1)) (hz : z = (n : Int)) : putD (l.map enM) (tSd t) (.int z) = (l ++ [(t, n)]).map enM := by
  unfold putD
  rw [look_none h, List.map_append, hz]
  rfl
def mapP (f : Flo.Rows) (s : Sta.Sd) (m : List (PyData × PyData)) : Prop := ∃ l, m = l.map enM ∧ Bfs.IsMap f s l
def rDistances (w : World) (ds : List PyData) (r : Out) : Prop := ∃ (f : Flo.Rows) (s : Sta.Sd), (Flo.okF f = true ∧ Bfs.isStand f s) ∧ ds = [fl f, tSd s] ∧ r = .dct w (mapP f s)
theorem take_in {cs : List Nat} {j c d : Nat} (h : cs[j]? = some c) : d ∈ cs.take (j + 1) → d ∈ cs.take j ∨ d = c := by
  rw [take_snoc h, List.mem_append, List.mem_singleton]
  exact id
theorem Qu.less {f : Flo.Rows} {s : Sta.Sd} {m : Bfs.Mp} {i : Nat} {P P' : Nat → Prop} (q : Bfs.Qu f s m i P) (h : ∀ c, P' c → P c) : Bfs.Qu f s m i P' := ⟨q.nd, q.ex, q.st, q.up, q.lo, q.cl, fun p hp c hc => q.now p hp c (h c hc)⟩
section
variable {M : Md} {X : Cx} {N : List Str} {sc : Scope} {k i : Nat} {σ : L2.St} {F0 H0 F H : Hp} {m : List (PyData × PyData)} {D : Ends} {pos np : Pos} {x : Str} {l : Addr} {E : XK} {P : List (PyData × PyData) → Prop}
theorem t_retD (o : Ok0 M X N sc) (w : OwD M.K M.w F0 H0 F H l m) (hm : P m) (hN : At N i x) (hv : σ[i]? = some (some (.ref l))) (dn : Done M.K F0 H0 D.rt E (.dct M.w P)) (hs : nameB sc x = true) : W1 X (.Return (some (.Name x np)) pos) D σ H := by
  unfold nameB at hs
  simp only [Bool.and_eq_true, Bool.not_eq_true'] at hs
  exact W1.of (ps_ret WE.pe) (we_slot o i hv (dn m l F H hm w.g w.fF w.fH w.d) hN.get hs.1.1 hs.1.2 hs.2)
end
section
variable {M : Md}
theorem fc_distances {f : Addr} {fd : FuncData} (F : Fun M.K "distances" "distances" s_distances f fd) (gm : M.mg "distances" = some (.ref f)) (bd : Binds M.K fd ["floor", "stand"] [])
    (hlen : M.mg "len" = none) (hR : Gc M "ROLLS" (.str "ensw")) (cN : Fc M CX0 "next_stand" 2 (spG M.K rNext)) : Fc M CX0 "distances" 3 (spG M.K (rDistances M.w)) := by
  refine fc_of F gm bd sc_distances (fun ds r h => ?_) (by decide) fun X o fs ds r h F0 H σ Q E S dn => ?_
  · obtain ⟨f, s, _, rfl, _⟩ := h
    rfl
  · obtain ⟨f, s, ⟨hf, hst⟩, rfl, rfl⟩ := h
    have hB : 24 * (Sta.cells f).length ≤ 1536 := by have := cells_len hf; omega
    refine s_cons (t_setD o fs S (by walk_at "ix") (k_disp1 o (d := tSd s) (by walk_at "xd") (keyD_sd s) x_int) (fun m a F1 H1 hm g1 w1 S1 => ?_) (by decide +kernel))
    subst hm
    refine s_cons (t_setO o fs S1 (by walk_at "ix") (x_lst (a_cons (d := tSd s) (by walk_at "xd") a_nil) (Nat.le_of_ble_eq_true rfl)) (fun l us F2 H2 g2 fF2 fH2 hl2 r2 S2 => ?_) (by decide +kernel))
    refine s_cons ?_
    walk_at "set"
    intro v3 F3 H3 g3 S3
    have hw : OwD M.K M.w F0 H F3 H3 a (([(s, 0)] : Bfs.Mp).map enM) := (w1.grow g2).grow g3
    have hl : Ow M.K F0 H F3 H3 l (([(s, 0)] : Bfs.Mp).map fun p => tSd p.1) := by
      have w2 : Ow M.K F0 H F2 H2 l [tSd s] := ⟨g1.trans g2, fF2, g1.kp.free fH2, us, hl2, r2⟩
      exact w2.grow g3
    have hva : (((σ.set 2 (some (.ref a))).set 3 (some (.ref l))).set 4 (some v3))[2]? = some (some (.ref a)) := by
      rw [List.getElem?_set_ne (by decide), List.getElem?_set_ne (by decide)]
      exact List.getElem?_set_self (by rw [← S.ln]; exact Nat.le_of_ble_eq_true rfl)
    have hvl : (((σ.set 2 (some (.ref a))).set 3 (some (.ref l))).set 4 (some v3))[3]? = some (some (.ref l)) := by
      rw [List.getElem?_set_ne (by decide)]
      exact List.getElem?_set_self (by rw [← S1.ln]; exact Nat.le_of_ble_eq_true rfl)
    let B := 24 * (Sta.cells f).length
    let Pw : (Nat → Prop) → Nat → Bfs.Mp → Hp → L2.St → Hp → Prop := fun done i m F' σ' H' => Bfs.Qu f s m i done ∧ (OwD M.K M.w F0 H F' H' a (m.map enM) ∧ Ow M.K F0 H F' H' l (m.map fun p => tSd p.1)) ∧ (σ'[2]? = some (some (.ref a)) ∧ σ'[3]? = some (some (.ref l))) ∧ Stt M.K F' H' σ' [some (fl f), some (tSd s), none, none, some (.int (i : Int)), none, none]
    refine s_cons ?_
    refine t_while o (fun n F' σ' H' => ∃ (i : Nat) (m : Bfs.Mp), (i ≤ m.length ∧ n = B + 1 - i) ∧ Pw (fun _ => False) i m F' σ' H') (B + 1) ⟨0, [(s, 0)], ⟨Nat.zero_le _, rfl⟩, Bfs.qu_start f s, ⟨hw, hl⟩, ⟨hva, hvl⟩, S3.less ⟨.inr rfl, .inr rfl, .inl rfl, .inl rfl, .inr rfl, .inl rfl, .inl rfl, trivial⟩⟩ S3.le ?_
    rintro n F' σ' H' e1 e2 ⟨i, m, ⟨hi, hn⟩, q, ⟨hw', hl'⟩, ⟨hva', hvl'⟩, S'⟩
    have hml : m.length ≤ B := Bfs.map_len hst q.nd q.ex
    refine ⟨decide ((i : Int) < ((m.map fun p => tSd p.1).length : Nat)), b_lt ?c1 (XD.xh (x_len o.toOk0 hlen (x_own o.toOk0 hl' (by walk_at "ix") hvl' (by decide +kernel)) (by decide +kernel))), fun hb F4 H4 g4 => ?_, fun hb F4 H4 g4 => ?_⟩
    case c1 => walk_at "xh"
    · have hlt : i < m.length := by
        have := of_decide_eq_true hb
        rw [List.length_map] at this
        omega
      have hlt' : i ≤ B := by omega
      have S4 := S'.grow g4
      obtain ⟨p0, hp0⟩ : ∃ p, m[i]? = some p := ⟨m[i], List.getElem?_eq_getElem hlt⟩
      let Mid : L2.St → Hp → Prop := fun σ'' H'' => ∃ (m' : Bfs.Mp) (F'' : Hp), Same F4 F'' ∧ i < m'.length ∧ Pw (fun c => c ∈ ([101, 110, 115, 119] : List Nat)) i m' F'' σ'' H''
      refine s_cut Mid ?d1 ?d2
      case d1 =>
        refine t_forS o fs S4 (by walk_at "ix") "ensw" (by walk_at "xd") (fun j F5 σ5 H5 => ∃ m' : Bfs.Mp, m'[i]? = some p0 ∧ Pw (fun c => c ∈ ([101, 110, 115, 119] : List Nat).take j) i m' F5 σ5 H5) ?h0 ?hs ?hd (by decide +kernel)
        case h0 =>
          intro F5 H5 g5 S5
          exact ⟨m, hp0, Qu.less q (fun c hc => by simp at hc), ⟨(hw'.grow g4).grow g5, (hl'.grow g4).grow g5⟩, ⟨hva', hvl'⟩, S5⟩
        case hd =>
          rintro F5 σ5 H5 e3 e4 ⟨m', hp', P⟩
          have e4 : ("ensw" : Str).cps.size = 4 := by decide +kernel
          rw [e4] at P
          exact ⟨m', F5, e3, (List.getElem?_eq_some_iff.mp hp').1, P⟩
        case hs =>
          rintro j c F5 σ5 H5 hj e3 e4 ⟨m', hp', q5, ⟨hw5, hl5⟩, ⟨hva5, hvl5⟩, S5⟩
          have hj' : ([101, 110, 115, 119] : List Nat)[j]? = some c := by
            rw [← ensw_list]
            simpa using hj
          have hcl : decide (c ∈ ([101, 110, 115, 119] : List Nat)) = true := decide_eq_true (List.mem_of_getElem? hj')
          have hpl : atI (m'.map fun p => tSd p.1) (i : Int) = some (tSd p0.1) := atI_nat (by rw [List.getElem?_map, hp']; rfl)
          have S6 := S5.set (i := 5) (v := .str ⟨#[c]⟩) (d := .str ⟨#[c]⟩) (.str _)
          have hva6 : (σ5.set 5 (some (.str ⟨#[c]⟩)))[2]? = some (some (.ref a)) := by rw [List.getElem?_set_ne (by decide)]; exact hva5
          have hvl6 : (σ5.set 5 (some (.str ⟨#[c]⟩)))[3]? = some (some (.ref l)) := by rw [List.getElem?_set_ne (by decide)]; exact hvl5
          refine s_cons (t_set (d := oS (Sta.next f p0.1 c)) o fs S6 (by walk_at "ix") (x_call o cN pz0 (a_cons ?p1 (a_cons (x_ixO (d := tSd p0.1) o.toOk0 hl5 (by walk_at "ix") hvl6 (by decide +kernel) ?p2 hpl) (a_cons ?p3 a_nil))) ⟨f, p0.1, c, ⟨hf, hcl⟩, rfl, rfl⟩ (by decide) (by decide +kernel)) (fun v7 F7 H7 g7 S7 => ?_) (by decide +kernel))
          case p1 => walk_at "xd"
          case p2 => walk_at "xd"
          case p3 => walk_at "xd"
          have hva7 : ((σ5.set 5 (some (.str ⟨#[c]⟩))).set 6 (some v7))[2]? = some (some (.ref a)) := by rw [List.getElem?_set_ne (by decide)]; exact hva6
          have hvl7 : ((σ5.set 5 (some (.str ⟨#[c]⟩))).set 6 (some v7))[3]? = some (some (.ref l)) := by rw [List.getElem?_set_ne (by decide)]; exact hvl6
          have hw7 := hw5.grow g7
          have hl7 := hl5.grow g7
          have fin : ∀ {q' : Bfs.Qu f s m' i (fun d => d ∈ ([101, 110, 115, 119] : List Nat).take j ∨ d = c)} (F8 H8 : Hp), Grow F7 H7 F8 H8 → ∀ {env'}, Stt M.K F8 H8 ((σ5.set 5 (some (.str ⟨#[c]⟩))).set 6 (some v7)) env' → leB [some (fl f), some (tSd s), none, none, some (.int (i : Int)), none, none] env' → Nx (fun F5 σ5 H5 => ∃ m' : Bfs.Mp, m'[i]? = some p0 ∧ Pw (fun c => c ∈ ([101, 110, 115, 119] : List Nat).take (j + 1)) i m' F5 σ5 H5) F5 ((σ5.set 5 (some (.str ⟨#[c]⟩))).set 6 (some v7)) H8 := fun {q'} F8 H8 g8 {env'} S8 hle =>
            ⟨F8, g7.ex.trans g8.ex, g8.le, m', hp', Qu.less q' (fun d hd => take_in hj' hd), ⟨hw7.grow g8, hl7.grow g8⟩, ⟨hva7, hvl7⟩, S8.less hle⟩
          refine s_one ?_
          cases hn : Sta.next f p0.1 c with
          | none =>
            rw [hn] at S7
            have q' := Bfs.Qu.skip q5 hp' (c := c) (fun t ht => by rw [hn] at ht; cases ht)
            refine' t_if (c := false) S7 (XB.to (XW.xb (w_and (c := false) (c' := false) (XB.to (b_notN (d1 := .none) ?q1) rfl) fun z => Bool.noConfusion z)) rfl) (fun z => Bool.noConfusion z) ?q2
            case q1 => exact XD.xh (d := .none) (by walk_at "xd")
            case q2 =>
              intro _ F8 H8 g8 S8
              exact s_nil (fin (q' := q') F8 H8 g8 S8 ⟨.inr rfl, .inr rfl, .inl rfl, .inl rfl, .inr rfl, .inl rfl, .inl rfl, trivial⟩)
          | some t =>
            rw [hn] at S7
            by_cases ht : t ∈ m'.map (·.1)
            · have q' := Bfs.Qu.skip q5 hp' (c := c) (fun t' ht' => by rw [hn] at ht'; cases ht'; exact ht)
              have hlk : (lookD (m'.map enM) (tSd t)).isSome = true := by
                obtain ⟨⟨t', n'⟩, hm', rfl⟩ := List.mem_map.mp ht
                rw [look_some q5.nd hm']
                rfl
              refine' t_if (c := false) S7 (XB.to (XW.xb (w_and (c := true) (c' := false) (XB.to (b_notN (d1 := tSd t) ?q3) rfl) fun _ => w_and1 (XB.to (b_ninD (d := tSd t) o ?q4 (keyD_sd t) hw7 (by walk_at "ix") hva7 (by decide +kernel)) (by rw [hlk]; rfl)))) rfl) (fun z => Bool.noConfusion z) ?q5
              case q3 => exact XD.xh (d := tSd t) (by walk_at "xd")
              case q4 => walk_at "xd"
              case q5 =>
                intro _ F8 H8 g8 S8
                exact s_nil (fin (q' := q') F8 H8 g8 S8 ⟨.inr rfl, .inr rfl, .inl rfl, .inl rfl, .inr rfl, .inl rfl, .inl rfl, trivial⟩)
            · have q' := Bfs.Qu.add q5 hp' hn ht
              have hlk : lookD (m'.map enM) (tSd t) = none := look_none ht
              have hml' : m'.length ≤ B := Bfs.map_len hst q5.nd q5.ex
              refine' t_if (c := true) S7 (XB.to (XW.xb (w_and (c := true) (c' := true) (XB.to (b_notN (d1 := tSd t) ?q3) rfl) fun _ => w_and1 (XB.to (b_ninD (d := tSd t) o ?q4 (keyD_sd t) hw7 (by walk_at "ix") hva7 (by decide +kernel)) (by rw [hlk]; rfl)))) rfl) ?q5 (fun z => Bool.noConfusion z)
              case q3 => exact XD.xh (d := tSd t) (by walk_at "xd")
              case q4 => walk_at "xd"
              case q5 =>
                intro _ F8 H8 g8 S8
                have hw8 := hw7.grow g8
                have hl8 := hl7.grow g8
                refine s_cons (t_putD (d := tSd t) (e' := .int ((p0.2 : Int) + 1)) o S8 hw8 (by walk_at "ix") hva7 (by decide +kernel) ?r1 (keyD_sd t) (x_add (x_ixD (d := tSd p0.1) o (x_ixO (d := tSd p0.1) o.toOk0 hl8 (by walk_at "ix") hvl7 (by decide +kernel) ?r2 hpl) (keyD_sd _) hw8 (by walk_at "ix") hva7 (by decide +kernel) (look_some q5.nd (List.mem_of_getElem? hp'))) x_int) (by rw [List.length_map]; omega) (fun ob F9 H9 g9 dk9 S9 w9 => ?_))
                case r1 => walk_at "xd"
                case r2 => walk_at "xd"
                rw [put_new (n := p0.2 + 1) ht (by omega)] at w9
                have hl9 := (hl8.grow g9).apart dk9 ((hw8.grow g9).fF) hw8.fH (ob := obO a ob)
                refine s_one (t_append (d := tSd t) o S9 hl9 (by walk_at "ix") hvl7 (by rw [List.length_map]; omega) ?r3 (fun us us' F10 H10 g10 hl10 S10 w10 => ?_) (by decide +kernel))
                case r3 => walk_at "xd"
                have hw10 := (w9.grow g10).apart (ob := .lst us') hl10 w10.fF hl9.fH
                refine ⟨F10, ((g7.ex.trans g8.ex).trans g9.ex).trans g10.ex, S10.le, m' ++ [(t, p0.2 + 1)], ?_, Qu.less q' (fun d hd => take_in hj' hd), ⟨hw10, ?_⟩, ⟨hva7, hvl7⟩, S10.less ⟨.inr rfl, .inr rfl, .inl rfl, .inl rfl, .inr rfl, .inl rfl, .inl rfl, trivial⟩⟩
                · rw [List.getElem?_append_left (List.getElem?_eq_some_iff.mp hp').1]
                  exact hp'
                · rw [List.map_append]
                  exact w10
      case d2 =>
        rintro σ5 H5 ⟨m', F5, e5, hlt5, q5, ⟨hw5, hl5⟩, ⟨hva5, hvl5⟩, S5⟩
        refine s_one (t_set (d := .int (((i + 1 : Nat)) : Int)) o fs S5 (by walk_at "ix") (XD.to (x_add (i := (i : Int)) (j := 1) ?k1 x_int) (show PyData.int ((i : Int) + 1) = .int ((i + 1 : Nat) : Int) by congr 1)) (fun v6 F6 H6 g6 S6 => ?_) (by decide +kernel))
        case k1 => walk_at "xd"
        refine ⟨B + 1 - (i + 1), F6, by omega, e5.trans g6.ex, g6.le, i + 1, m', ⟨hlt5, rfl⟩, Bfs.Qu.next q5 (fun c hc => hc), ⟨hw5.grow g6, hl5.grow g6⟩, ⟨?_, ?_⟩, S6⟩
        · rw [List.getElem?_set_ne (by decide)]
          exact hva5
        · rw [List.getElem?_set_ne (by decide)]
          exact hvl5
    · have hge : i = m.length := by
        have := of_decide_eq_false hb
        rw [List.length_map] at this
        omega
      subst hge
      exact s_one (t_retD (E := E) o.toOk0 (hw'.grow g4) ⟨m, rfl, q.end⟩ (by walk_at "ix") hva' dn (by decide +kernel))
end
end Roll

namespace Roll
open PySem L2 Lay
/-! lists of places -/
theorem eqv_empty (ds : List PyData) : PyData.eqv (.list ds) (.list []) = ds.isEmpty := by
  cases ds <;> rfl
theorem can_tPs : ∀ cs : List Sta.P2, PyData.canLayAll0 (cs.map tP) = true ∧ PyData.depthAll (cs.map tP) ≤ 1
  | [] => ⟨rfl, by decide⟩
  | c :: cs => by
    obtain ⟨h1, h2⟩ := can_tPs cs
    refine ⟨?_, ?_⟩
    · show (true && PyData.canLayAll0 (cs.map tP)) = true
      rw [h1]
      rfl
    · show max (tP c).depth (PyData.depthAll (cs.map tP)) ≤ 1
      have : (tP c).depth = 1 := rfl
      omega
theorem pl_tPs (cs : List Sta.P2) : Pl (.list (cs.map tP)) := by
  obtain ⟨h1, h2⟩ := can_tPs cs
  show ((PyData.list (cs.map tP)).canLay0 && decide ((PyData.list (cs.map tP)).depth ≤ 64)) = true
  have e1 : (PyData.list (cs.map tP)).canLay0 = PyData.canLayAll0 (cs.map tP) := rfl
  have e2 : (PyData.list (cs.map tP)).depth = PyData.depthAll (cs.map tP) + 1 := rfl
  rw [e1, e2, h1, decide_eq_true (by omega)]
  rfl
theorem eqv_tP (p q : Sta.P2) : PyData.eqv (tP p) (tP q) = decide (p = q) := by
  obtain ⟨a, b⟩ := p
  obtain ⟨x, y⟩ := q
  show (a == x && (b == y && true)) = _
  by_cases h1 : a = x
  · by_cases h2 : b = y
    · subst h1 h2
      simp
    · simp [h2]
  · simp [h1]
theorem any_tP (cs : List Sta.P2) (p : Sta.P2) : ((cs.map tP).any fun z => PyData.eqv z (tP p)) = decide (p ∈ cs) := by
  induction cs with
  | nil => rfl
  | cons c cs ih =>
    rw [List.map_cons, List.any_cons, ih, eqv_tP]
    by_cases h : c = p
    · subst h
      simp
    · have h' : ¬ p = c := fun z => h z.symm
      rw [decide_eq_false h]
      simp [h']
theorem any_cells (f : Flo.Rows) (p : Sta.P2) : (((Sta.cells f).map tP).any fun z => PyData.eqv z (tP p)) = Sta.isCell f p := by
  rw [any_tP, Bool.eq_iff_iff, decide_eq_true_eq]
  exact Sta.mem_cells
theorem cell_ix {cs : List Sta.P2} (h : cs.isEmpty = false) (z : Int) : atI (cs.map tP) (z % (((cs.map tP).length : Nat) : Int)) = some (tP (cs.getD (z % (cs.length : Nat)).toNat (0, 0))) ∧ (0 : Int) < (((cs.map tP).length : Nat) : Int) ∧ cs.getD (z % (cs.length : Nat)).toNat (0, 0) ∈ cs := by
  have hl : 0 < cs.length := by
    cases cs with
    | nil => cases h
    | cons c cs => simp
  rw [List.length_map]
  have h1 := Int.emod_nonneg z (show ((cs.length : Nat) : Int) ≠ 0 by omega)
  have h2 := Int.emod_lt_of_pos z (show (0 : Int) < ((cs.length : Nat) : Int) by omega)
  obtain ⟨n, hn⟩ := Int.eq_ofNat_of_zero_le h1
  rw [hn, Int.toNat_natCast]
  have hlt : n < cs.length := by omega
  have e : cs.getD n (0, 0) = cs[n] := by
    rw [List.getD_eq_getElem?_getD, List.getElem?_eq_getElem hlt]
    rfl
  rw [e]
  exact ⟨atI_nat (by rw [List.getElem?_map, List.getElem?_eq_getElem hlt]; rfl), by omega, List.getElem_mem hlt⟩
end Roll

namespace Roll
open PySem L2 Lay
/-! ends, turns -/
def endsO (C0 C1 C2 : Addr) (f : Flo.Rows) (s : Sta.Sd) (p : Sta.P2) (r : Out) : Out := if Flo.okF f = true then (if Sta.isCell f s.1 = true then (if Die.isLie s.2 = true then (if Sta.isCell f p = true then r else .err C1) else .err C2) else .err C1) else .err C0
def rEnds (C0 C1 C2 : Addr) (ds : List PyData) (r : Out) : Prop := ∃ (f : Flo.Rows) (s : Sta.Sd) (p : Sta.P2), shortF f ∧ ds = [fl f, tSd s, tP p] ∧ r = endsO C0 C1 C2 f s p (.own ((Bfs.endsL f s p).map tL))
theorem tL_lst (l : Die.L3) : tL l = tI (Die.lst l) := rfl
theorem map_tL (ls : List Die.L3) : ls.map tL = (ls.map Die.lst).map tI := by
  rw [List.map_map]
  rfl
section
variable {M : Md} {C0 C1 C2 : Addr}
theorem fc_ends {f : Addr} {fd : FuncData} (F : Fun M.K "ends" "ends" s_ends f fd) (gm : M.mg "ends" = some (.ref f)) (bd : Binds M.K fd ["floor", "stand", "place"] [])
    (hsor : M.mg "sorted" = none) (cF : Fc M (L2.CX M.P M.w) "must_be_floor" 1 (spG M.K (rMustF C0))) (cS : Fc M (L2.CX M.P M.w) "must_be_stand" 4 (spG M.K (rMustS C1 C2))) (cC : Fc M (L2.CX M.P M.w) "must_be_cell" 2 (spG M.K (rMustC C1)))
    (cD : Fc M CX0 "distances" 3 (spG M.K (rDistances M.w))) : Fc M (L2.CX M.P M.w) "ends" 5 (spG M.K (rEnds C0 C1 C2)) := by
  refine fc_ofX F gm bd sc_ends (fun ds r h => ?_) (by decide) fun X E o fs tk ds r h F0 H σ Q S dn => ?_
  · obtain ⟨f, s, p, _, rfl, _⟩ := h
    rfl
  · obtain ⟨f, s, p, hs, rfl, rfl⟩ := h
    unfold endsO at dn
    refine s_cons ?_
    refine s_must o tk S cF (by walk_at "xa") ⟨f, hs, rfl, rfl⟩ (by decide) (by decide +kernel) (by decide +kernel) ?_
    cases h0 : Flo.okF f with
    | false =>
      rw [h0, if_neg Bool.false_ne_true] at dn
      rw [if_neg Bool.false_ne_true]
      exact dn
    | true =>
      rw [h0, if_pos rfl] at dn
      rw [if_pos rfl]
      intro v F1 H1 g1 _
      have S1 := S.grow g1
      have dn := dn.grow g1
      refine s_cons ?_
      refine s_must o tk S1 cS (by walk_at "xa") ⟨f, s, h0, rfl, rfl⟩ (by decide) (by decide +kernel) (by decide +kernel) ?_
      cases h1 : Sta.isCell f s.1 with
      | false =>
        rw [h1, if_neg Bool.false_ne_true] at dn
        rw [if_neg Bool.false_ne_true]
        exact dn
      | true =>
        rw [h1, if_pos rfl] at dn
        rw [if_pos rfl]
        cases h2 : Die.isLie s.2 with
        | false =>
          rw [h2, if_neg Bool.false_ne_true] at dn
          rw [if_neg Bool.false_ne_true]
          exact dn
        | true =>
          rw [h2, if_pos rfl] at dn
          rw [if_pos rfl]
          intro v F2 H2 g2 _
          have S2 := S1.grow g2
          have dn := dn.grow g2
          refine s_cons ?_
          refine s_must o tk S2 cC (by walk_at "xa") ⟨f, p, h0, rfl, rfl⟩ (by decide) (by decide +kernel) (by decide +kernel) ?_
          cases h3 : Sta.isCell f p with
          | false =>
            rw [h3, if_neg Bool.false_ne_true] at dn
            rw [if_neg Bool.false_ne_true]
            exact dn
          | true =>
            rw [h3, if_pos rfl] at dn
            rw [if_pos rfl]
            intro v F3 H3 g3 _
            have S3 := S2.grow g3
            have dn := dn.grow g3
            have hst : Bfs.isStand f s := ⟨h1, h2⟩
            refine s_one (t_doneO (E := E) S3 (XO.to (o_sortedS (due := (Bfs.endsL f s p).map Die.lst) o hsor (s_lcD o [("one", 3)] 3 tSd (fun zs => ∃ l, Bfs.IsMap f s l ∧ zs = l.map (·.1)) (fun z => decide (z.1 = p)) (fun z => tL z.2) (k_call (P := mapP f s) o cD pz0 ?a1 ⟨f, s, ⟨h0, hst⟩, rfl, rfl⟩ (by decide) (by decide +kernel)) ?a2 (by decide +kernel) (by decide) rfl (by decide +kernel) (.inr ⟨_, rfl⟩) ?a3 ?a4) ?a5 (by decide +kernel)) (map_tL _).symm) dn)
            case a1 => walk_at "xa"
            case a2 =>
              rintro m ⟨l, rfl, hm⟩
              refine ⟨l.map (·.1), by rw [List.map_map, List.map_map]; rfl, ?_, l, hm, rfl⟩
              rw [List.length_map]
              have := Bfs.map_len hst hm.nd (fun t n h => (hm.iff t n).mp h)
              have := cells_len h0
              omega
            case a3 =>
              intro zs _ z hz v F4 H4 g r
              have S4 := S3.blk (vs := [3]) (j := 3) g r
              refine Blk.one (fun Y oY => ?_) fun _ Y oY => by walk_at "xd"
              refine XB.to (b_eq (d1 := tP z.1) (d2 := tP p) oY (by walk_at "xh") (by walk_at "xh") rfl rfl) (eqv_tP _ _)
            case a4 =>
              intro h
              cases h
            case a5 =>
              rintro d ⟨zs, ⟨l, hm, rfl⟩, rfl⟩
              refine ⟨((l.map (·.1)).filter fun z => decide (z.1 = p)).map fun z => Die.lst z.2, ?_, fun r hr => ?_, ?_⟩
              · unfold kept
                rw [List.map_map]
                rfl
              · obtain ⟨z, _, rfl⟩ := List.mem_map.mp hr
                intro e
                cases e
              · exact srtR_eq (Bfs.ends_perm hst hm p).symm (Bfs.endsL_up f s p)
end
end Roll

namespace Roll
open PySem L2 Lay
/-! turns of a cell -/
def turnsO (C0 C1 : Addr) (f : Flo.Rows) (p : Sta.P2) (r : Out) : Out := if Flo.okF f = true then (if Sta.isCell f p = true then r else .err C1) else .err C0
noncomputable def turnsL (f : Flo.Rows) (p : Sta.P2) : List PyData := (Bfs.endsL f (p, Die.first) p).map tL
def rTurns (C0 C1 : Addr) (ds : List PyData) (r : Out) : Prop := ∃ (f : Flo.Rows) (p : Sta.P2), shortF f ∧ ds = [fl f, tP p] ∧ r = turnsO C0 C1 f p (.own (turnsL f p))
section
variable {M : Md} {C0 C1 C2 : Addr}
theorem fc_turns {f : Addr} {fd : FuncData} (F : Fun M.K "turns" "turns" s_turns f fd) (gm : M.mg "turns" = some (.ref f)) (bd : Binds M.K fd ["floor", "place"] [])
    (hF : Gc M "FIRST" (tl 1 2 3)) (cF : Fc M (L2.CX M.P M.w) "must_be_floor" 1 (spG M.K (rMustF C0))) (cC : Fc M (L2.CX M.P M.w) "must_be_cell" 2 (spG M.K (rMustC C1))) (cE : Fc M (L2.CX M.P M.w) "ends" 5 (spG M.K (rEnds C0 C1 C2))) : Fc M (L2.CX M.P M.w) "turns" 6 (spG M.K (rTurns C0 C1)) := by
  refine fc_ofX F gm bd sc_turns (fun ds r h => ?_) (by decide) fun X E o fs tk ds r h F0 H σ Q S dn => ?_
  · obtain ⟨f, p, _, rfl, _⟩ := h
    rfl
  · obtain ⟨f, p, hs, rfl, rfl⟩ := h
    unfold turnsO at dn
    refine s_cons ?_
    refine s_must o tk S cF (by walk_at "xa") ⟨f, hs, rfl, rfl⟩ (by decide) (by decide +kernel) (by decide +kernel) ?_
    cases h0 : Flo.okF f with
    | false =>
      rw [h0, if_neg Bool.false_ne_true] at dn
      rw [if_neg Bool.false_ne_true]
      exact dn
    | true =>
      rw [h0, if_pos rfl] at dn
      rw [if_pos rfl]
      intro v F1 H1 g1 _
      have S1 := S.grow g1
      have dn := dn.grow g1
      refine s_cons ?_
      refine s_must o tk S1 cC (by walk_at "xa") ⟨f, p, h0, rfl, rfl⟩ (by decide) (by decide +kernel) (by decide +kernel) ?_
      cases h3 : Sta.isCell f p with
      | false =>
        rw [h3, if_neg Bool.false_ne_true] at dn
        rw [if_neg Bool.false_ne_true]
        exact dn
      | true =>
        rw [h3, if_pos rfl] at dn
        rw [if_pos rfl]
        intro v F2 H2 g2 _
        have S2 := S1.grow g2
        have dn := dn.grow g2
        have hfi : Die.isLie Die.first = true := Die.first_right
        refine s_one (t_doneO (E := E) S2 (o_call o cE pzX (a_cons ?b1 (a_cons (d := tSd (p, Die.first)) ?b2 (a_cons (d := tP p) ?b3 a_nil))) ⟨f, (p, Die.first), p, hs, rfl, ?b4⟩ (by decide) (by decide +kernel)) dn)
        case b1 => walk_at "xd"
        case b2 => exact x_tup (a_cons (d := tP p) (by walk_at "xd") (a_cons (d := tl 1 2 3) (by walk_at "xd") a_nil)) (Nat.le_of_ble_eq_true rfl)
        case b3 => walk_at "xd"
        case b4 =>
          unfold endsO
          rw [if_pos h0, if_pos (show Sta.isCell f (p, Die.first).1 = true from h3), if_pos (show Die.isLie (p, Die.first).2 = true from hfi), if_pos h3]
          rfl
end
end Roll

namespace Roll
open PySem L2 Lay
/-! come_to -/
def comeO (C0 C1 C2 : Addr) (f : Flo.Rows) (s : Sta.Sd) (r : Out) : Out := if Flo.okF f = true then (if Sta.isCell f s.1 = true then (if Die.isLie s.2 = true then r else .err C2) else .err C1) else .err C0
theorem comeO_ok {C0 C1 C2 : Addr} {f : Flo.Rows} {s : Sta.Sd} {r : Out} (hf : Flo.okF f = true) (hs : Bfs.isStand f s) : r = comeO C0 C1 C2 f s r := by
  unfold comeO
  rw [if_pos hf, if_pos hs.1, if_pos hs.2]
def rCome (w : World) (C0 C1 C2 : Addr) (ds : List PyData) (r : Out) : Prop := ∃ (f : Flo.Rows) (s : Sta.Sd), shortF f ∧ ds = [fl f, tSd s] ∧ r = comeO C0 C1 C2 f s (.dct w (mapP f s))
section
variable {M : Md} {C0 C1 C2 : Addr}
theorem fc_come_to {f : Addr} {fd : FuncData} (F : Fun M.K "come_to" "come_to" s_come_to f fd) (gm : M.mg "come_to" = some (.ref f)) (bd : Binds M.K fd ["floor", "stand"] [])
    (cF : Fc M (L2.CX M.P M.w) "must_be_floor" 1 (spG M.K (rMustF C0))) (cS : Fc M (L2.CX M.P M.w) "must_be_stand" 4 (spG M.K (rMustS C1 C2)))
    (cD : Fc M CX0 "distances" 3 (spG M.K (rDistances M.w))) : Fc M (L2.CX M.P M.w) "come_to" 5 (spG M.K (rCome M.w C0 C1 C2)) := by
  refine fc_ofX F gm bd sc_come_to (fun ds r h => ?_) (by decide) fun X E o fs tk ds r h F0 H σ Q S dn => ?_
  · obtain ⟨f, s, _, rfl, _⟩ := h
    rfl
  · obtain ⟨f, s, hs, rfl, rfl⟩ := h
    unfold comeO at dn
    refine s_cons ?_
    refine s_must o tk S cF (by walk_at "xa") ⟨f, hs, rfl, rfl⟩ (by decide) (by decide +kernel) (by decide +kernel) ?_
    cases h0 : Flo.okF f with
    | false =>
      rw [h0, if_neg Bool.false_ne_true] at dn
      rw [if_neg Bool.false_ne_true]
      exact dn
    | true =>
      rw [h0, if_pos rfl] at dn
      rw [if_pos rfl]
      intro v F1 H1 g1 _
      have S1 := S.grow g1
      have dn := dn.grow g1
      refine s_cons ?_
      refine s_must o tk S1 cS (by walk_at "xa") ⟨f, s, h0, rfl, rfl⟩ (by decide) (by decide +kernel) (by decide +kernel) ?_
      cases h1 : Sta.isCell f s.1 with
      | false =>
        rw [h1, if_neg Bool.false_ne_true] at dn
        rw [if_neg Bool.false_ne_true]
        exact dn
      | true =>
        rw [h1, if_pos rfl] at dn
        rw [if_pos rfl]
        cases h2 : Die.isLie s.2 with
        | false =>
          rw [h2, if_neg Bool.false_ne_true] at dn
          rw [if_neg Bool.false_ne_true]
          exact dn
        | true =>
          rw [h2, if_pos rfl] at dn
          rw [if_pos rfl]
          intro v F2 H2 g2 _
          have S2 := S1.grow g2
          have dn := dn.grow g2
          exact s_one (t_retK (E := E) S2.le (k_call (P := mapP f s) o cD pz0 (by walk_at "xa") ⟨f, s, ⟨h0, h1, h2⟩, rfl, rfl⟩ (by decide) (by decide +kernel)) dn)
end
end Roll

namespace Roll
open PySem L2 Lay
/-! firm -/
abbrev enT (zs : List Sta.Sd) (p : Sta.P2) : PyData × PyData := (tP p, .list ((Bfs.topsAt zs p).map PyData.int))
theorem keyD_tP (p : Sta.P2) : keyD (tP p) := ⟨rfl, Nat.le_of_ble_eq_true rfl, _, rfl⟩
theorem tP_inj {p q : Sta.P2} (h : tP p = tP q) : p = q := by
  obtain ⟨a, b⟩ := p
  obtain ⟨c, d⟩ := q
  simp only [PyData.tuple.injEq, List.cons.injEq, PyData.int.injEq, and_true] at h
  obtain ⟨rfl, rfl⟩ := h
  rfl
theorem key_tP {p q : Sta.P2} : keyOf (tP p) = keyOf (tP q) ↔ p = q := ⟨fun h => tP_inj (keyOf_inj rfl rfl h), fun h => by rw [h]⟩
theorem look_tops (zs : List Sta.Sd) (ks : List Sta.P2) (p : Sta.P2) : lookD (ks.map (enT zs)) (tP p) = if p ∈ ks then some (enT zs p).2 else none := by
  unfold lookD
  induction ks with
  | nil => rfl
  | cons k ks ih =>
    rw [List.map_cons, List.find?_cons]
    by_cases e : k = p
    · subst e
      rw [decide_eq_true (key_tP.mpr rfl), if_pos List.mem_cons_self]
      rfl
    · rw [decide_eq_false (fun z => e (key_tP.mp z)), ih]
      by_cases h : p ∈ ks
      · rw [if_pos h, if_pos (List.mem_cons_of_mem _ h)]
      · rw [if_neg h, if_neg (fun z => by
          rcases List.mem_cons.mp z with z | z
          · exact e z.symm
          · exact h z)]
theorem get_tops {zs : List Sta.Sd} {ks : List Sta.P2} (hm : ∀ p, p ∈ ks ↔ ∃ z ∈ zs, z.1 = p) (p : Sta.P2) : (lookD (ks.map (enT zs)) (tP p)).getD (.list []) = .list ((Bfs.topsAt zs p).map PyData.int) := by
  rw [look_tops]
  by_cases h : p ∈ ks
  · rw [if_pos h]
    rfl
  · rw [if_neg h, Bfs.topsAt_nil fun z hz e => h ((hm p).mpr ⟨z, hz, e⟩)]
    rfl
def keep (ks : List Sta.P2) (p : Sta.P2) : List Sta.P2 := if p ∈ ks then ks else ks ++ [p]
theorem put_tops {zs : List Sta.Sd} {ks : List Sta.P2} (z : Sta.Sd) : putD (ks.map (enT zs)) (tP z.1) (.list ((Bfs.topsAt zs z.1).map PyData.int ++ [.int z.2.1])) = (keep ks z.1).map (enT (zs ++ [z])) ∨ (z.1 ∉ ks ∧ Bfs.topsAt zs z.1 ≠ []) := by
  unfold putD keep
  rw [look_tops]
  have same : ∀ p, p ≠ z.1 → enT (zs ++ [z]) p = enT zs p := fun p hp => by
    show (tP p, PyData.list ((Bfs.topsAt (zs ++ [z]) p).map PyData.int)) = _
    rw [Bfs.topsAt_snoc, if_neg (fun e => hp e.symm), List.append_nil]
  have here : enT (zs ++ [z]) z.1 = (tP z.1, .list ((Bfs.topsAt zs z.1).map PyData.int ++ [.int z.2.1])) := by
    show (tP z.1, PyData.list ((Bfs.topsAt (zs ++ [z]) z.1).map PyData.int)) = _
    rw [Bfs.topsAt_snoc, if_pos rfl, List.map_append]
    rfl
  by_cases h : z.1 ∈ ks
  · left
    rw [if_pos h, if_pos h, if_pos (show (some (enT zs z.1).2).isSome = true from rfl), List.map_map]
    refine List.map_congr_left fun p _ => ?_
    show (if keyOf (tP p) = keyOf (tP z.1) then (tP p, _) else enT zs p) = _
    by_cases e : p = z.1
    · rw [if_pos (key_tP.mpr e), e, here]
    · rw [if_neg (fun q => e (key_tP.mp q)), same p e]
  · by_cases ht : Bfs.topsAt zs z.1 = []
    · left
      rw [if_neg h, if_neg h, if_neg (by intro e; cases e), List.map_append]
      congr 1
      · refine (List.map_congr_left fun p hp => ?_).symm
        exact same p fun e => h (e ▸ hp)
      · show _ = [enT (zs ++ [z]) z.1]
        rw [here]
    · exact .inr ⟨h, ht⟩
theorem keep_nodup {ks : List Sta.P2} {p : Sta.P2} (h : ks.Nodup) : (keep ks p).Nodup := by
  unfold keep
  by_cases hp : p ∈ ks
  · rw [if_pos hp]
    exact h
  · rw [if_neg hp, List.nodup_append]
    refine ⟨h, by simp, fun a ha b hb e => ?_⟩
    rw [List.mem_singleton] at hb
    subst hb e
    exact hp ha
theorem keep_mem {zs : List Sta.Sd} {ks : List Sta.P2} {z : Sta.Sd} (hm : ∀ p, p ∈ ks ↔ ∃ y ∈ zs, y.1 = p) (p : Sta.P2) : p ∈ keep ks z.1 ↔ ∃ y ∈ zs ++ [z], y.1 = p := by
  have e : p ∈ keep ks z.1 ↔ p ∈ ks ∨ p = z.1 := by
    unfold keep
    by_cases h : z.1 ∈ ks
    · rw [if_pos h]
      exact ⟨.inl, fun q => by
        rcases q with q | q
        · exact q
        · rw [q]; exact h⟩
    · rw [if_neg h, List.mem_append, List.mem_singleton]
  rw [e, hm]
  constructor
  · rintro (⟨y, h1, h2⟩ | rfl)
    · exact ⟨y, List.mem_append_left _ h1, h2⟩
    · exact ⟨z, List.mem_append_right _ (List.mem_singleton.mpr rfl), rfl⟩
  · rintro ⟨y, h1, h2⟩
    rcases List.mem_append.mp h1 with h1 | h1
    · exact .inl ⟨y, h1, h2⟩
    · rw [List.mem_singleton] at h1
      subst h1
      exact .inr h2.symm
theorem unl_eq (ns : List Int) : PyData.eqv (.int ((unl ns).length : Nat)) (.int 1) = Bfs.oneOnly ns := by
  have e := unl_one (ns := ns)
  rw [eqv_int]
  unfold Bfs.oneOnly
  rw [← e]
  rw [Bool.eq_iff_iff, beq_iff_eq, beq_iff_eq]
  omega
def rFirm (C0 C1 C2 : Addr) (ds : List PyData) (r : Out) : Prop := ∃ (f : Flo.Rows) (s : Sta.Sd), shortF f ∧ ds = [fl f, tSd s] ∧ r = comeO C0 C1 C2 f s (.own ((Bfs.firmL f s).map tP))
section
variable {M : Md} {C0 C1 C2 : Addr}
theorem fc_firm {f : Addr} {fd : FuncData} (F : Fun M.K "firm" "firm" s_firm f fd) (gm : M.mg "firm" = some (.ref f)) (bd : Binds M.K fd ["floor", "stand"] [])
    (hlen : M.mg "len" = none) (hset : M.mg "set" = none) (hsor : M.mg "sorted" = none) (cF : Fc M (L2.CX M.P M.w) "must_be_floor" 1 (spG M.K (rMustF C0))) (cS : Fc M (L2.CX M.P M.w) "must_be_stand" 4 (spG M.K (rMustS C1 C2)))
    (cD : Fc M CX0 "distances" 3 (spG M.K (rDistances M.w))) : Fc M (L2.CX M.P M.w) "firm" 5 (spG M.K (rFirm C0 C1 C2)) := by
  refine fc_ofX F gm bd sc_firm (fun ds r h => ?_) (by decide) fun X E o fs tk ds r h F0 H σ Q S dn => ?_
  · obtain ⟨f, s, _, rfl, _⟩ := h
    rfl
  · obtain ⟨f, s, hs, rfl, rfl⟩ := h
    unfold comeO at dn
    refine s_cons ?_
    refine s_must o tk S cF (by walk_at "xa") ⟨f, hs, rfl, rfl⟩ (by decide) (by decide +kernel) (by decide +kernel) ?_
    cases h0 : Flo.okF f with
    | false =>
      rw [h0, if_neg Bool.false_ne_true] at dn
      rw [if_neg Bool.false_ne_true]
      exact dn
    | true =>
      rw [h0, if_pos rfl] at dn
      rw [if_pos rfl]
      intro v F1 H1 g1 _
      have S1 := S.grow g1
      have dn := dn.grow g1
      refine s_cons ?_
      refine s_must o tk S1 cS (by walk_at "xa") ⟨f, s, h0, rfl, rfl⟩ (by decide) (by decide +kernel) (by decide +kernel) ?_
      cases h1 : Sta.isCell f s.1 with
      | false =>
        rw [h1, if_neg Bool.false_ne_true] at dn
        rw [if_neg Bool.false_ne_true]
        exact dn
      | true =>
        rw [h1, if_pos rfl] at dn
        rw [if_pos rfl]
        cases h2 : Die.isLie s.2 with
        | false =>
          rw [h2, if_neg Bool.false_ne_true] at dn
          rw [if_neg Bool.false_ne_true]
          exact dn
        | true =>
          rw [h2, if_pos rfl] at dn
          rw [if_pos rfl]
          intro v F2 H2 g2 _
          have S2 := S1.grow g2
          have dn := dn.grow g2
          have hst : Bfs.isStand f s := ⟨h1, h2⟩
          have hcl := cells_len h0
          refine s_cons (t_setD o fs S2 (by walk_at "ix") k_disp0 (fun m a F3 H3 hm g3 w3 S3 => ?_) (by decide +kernel))
          subst hm
          have hva3 : (σ.set 2 (some (.ref a)))[2]? = some (some (.ref a)) := List.getElem?_set_self (by rw [← S2.ln]; exact Nat.le_of_ble_eq_true rfl)
          let Pz : List Sta.Sd → Prop := fun zs => ∃ l, Bfs.IsMap f s l ∧ zs = l.map (·.1)
          let Pv : List Sta.Sd → Nat → Hp → L2.St → Hp → Prop := fun zs i F' σ' H' => ∃ ks : List Sta.P2, (ks.Nodup ∧ ∀ p, p ∈ ks ↔ ∃ z ∈ zs.take i, z.1 = p) ∧ OwD M.K M.w F2 H2 F' H' a (ks.map (enT (zs.take i))) ∧ σ'[2]? = some (some (.ref a)) ∧ Stt M.K F' H' σ' [some (fl f), some (tSd s), none, none, none]
          let Mid : L2.St → Hp → Prop := fun σ' H' => ∃ zs F', Pz zs ∧ Pv zs zs.length F' σ' H'
          refine s_cut Mid ?d1 ?d2
          case d1 =>
            refine t_forK o fs S3 (by walk_at "ix") tSd Pz (k_call (P := mapP f s) o cD pz0 (by walk_at "xa") ⟨f, s, ⟨h0, hst⟩, rfl, rfl⟩ (by decide) (by decide +kernel)) ?hP Pv ?h0 ?hs ?hd (by decide +kernel)
            case hP =>
              rintro m ⟨l, rfl, hm⟩
              exact ⟨l.map (·.1), by rw [List.map_map, List.map_map]; rfl, l, hm, rfl⟩
            case h0 =>
              intro zs _ F' H' g S'
              exact ⟨[], ⟨List.nodup_nil, fun p => by simp⟩, w3.grow g, hva3, S'.less ⟨.inr rfl, .inr rfl, .inl rfl, .inl rfl, .inl rfl, trivial⟩⟩
            case hd =>
              intro zs hz F' σ' H' e1 e2 P
              exact ⟨zs, F', hz, P⟩
            case hs =>
              rintro zs ⟨l, hm, rfl⟩ i z v F' σ' H' hi e1 e2 ⟨ks, ⟨hk, hkm⟩, hw, hva, S'⟩ rv
              have hzs : ((l.map (·.1)).take i).length ≤ 1536 := by
                have := Bfs.map_len hst hm.nd (fun t n h => (hm.iff t n).mp h)
                rw [List.length_take, List.length_map]
                omega
              have hks : ks.length ≤ 1536 := by
                refine Nat.le_trans (Bfs.nodup_le (u := Sta.cells f) hk fun p hp => ?_) (by omega)
                obtain ⟨y, hy, rfl⟩ := (hkm p).mp hp
                obtain ⟨n, hn⟩ := (Bfs.map_iff hm y).mp (List.mem_of_mem_take hy)
                exact Sta.mem_cells.mpr (Bfs.goes_stand hst hn).1
              have S4 := S'.set (i := 3) rv
              have hva4 : (σ'.set 3 (some v))[2]? = some (some (.ref a)) := by rw [List.getElem?_set_ne (by decide)]; exact hva
              have hto : ((Bfs.topsAt ((l.map (·.1)).take i) z.1).map PyData.int).length ≤ 1536 := by
                rw [List.length_map]
                unfold Bfs.topsAt
                rw [List.length_map]
                exact Nat.le_trans (List.length_filter_le _ _) hzs
              refine s_one (t_putD (d := tP z.1) (e' := .list ((Bfs.topsAt ((l.map (·.1)).take i) z.1).map PyData.int ++ [.int z.2.1])) o S4 hw (by walk_at "ix") hva4 (by decide +kernel) ?r1 (keyD_tP z.1) (XO.xd (x_addl (XD.to (x_getD (d := tP z.1) (e0 := .list []) o ?r2 (keyD_tP z.1) ?r3 hw (by walk_at "ix") hva4 (by decide +kernel)) (get_tops hkm z.1)) ?r4 ?r5)) (by rw [List.length_map]; omega) (fun ob F9 H9 g9 dk9 S9 w9 => ?_))
              case r1 => exact x_ixT (ds := [tP z.1, tL z.2]) o.toOk0 (by walk_at "xd") x_int rfl
              case r2 => exact x_ixT (ds := [tP z.1, tL z.2]) o.toOk0 (by walk_at "xd") x_int rfl
              case r3 => exact XO.xd (x_lst a_nil (Nat.le_of_ble_eq_true rfl))
              case r4 => exact XO.xd (x_lst (a_cons (d := .int z.2.1) (x_ixT (ds := [.int z.2.1, .int z.2.2.1, .int z.2.2.2]) o.toOk0 (x_ixT (ds := [tP z.1, tL z.2]) o.toOk0 (by walk_at "xd") x_int rfl) x_int rfl) a_nil) (Nat.le_of_ble_eq_true rfl))
              case r5 =>
                rw [List.length_singleton]
                exact Nat.le_trans (Nat.succ_le_succ hto) (by decide)
              rw [(put_tops z).resolve_right (fun h => h.2 (Bfs.topsAt_nil fun y hy e => h.1 ((hkm _).mpr ⟨y, hy, e⟩))), ← take_snoc hi] at w9
              refine ⟨F9, g9.ex, S9.le, keep ks z.1, ⟨keep_nodup hk, fun p => ?_⟩, w9, hva4, S9.less ⟨.inr rfl, .inr rfl, .inl rfl, .inl rfl, .inl rfl, trivial⟩⟩
              rw [take_snoc hi]
              exact keep_mem hkm p
          case d2 =>
            rintro σ4 H4 ⟨zs, F4, ⟨l, hm, rfl⟩, ks, ⟨hk, hkm⟩, hw, hva, S4⟩
            rw [List.take_length] at hkm hw
            have hz := Bfs.map_iff hm
            have dn := dn.grow hw.g
            have hks : ks.length ≤ 64 := by
              refine Nat.le_trans (Bfs.nodup_le (u := Sta.cells f) hk fun p hp => ?_) hcl
              obtain ⟨y, hy, rfl⟩ := (hkm p).mp hp
              obtain ⟨n, hn⟩ := (hz y).mp hy
              exact Sta.mem_cells.mpr (Bfs.goes_stand hst hn).1
            refine s_one (t_doneO (E := E) S4 (XO.to (o_sortedS (due := (Bfs.firmL f s).map Bfs.plst) o hsor (s_lcI o [("place", 4)] 4 tP (fun ks' => ks' = ks) (fun p => Bfs.oneOnly (Bfs.topsAt (l.map (·.1)) p)) tP (i_own o.toOk0 hw (by walk_at "ix") hva (by decide +kernel)) ?a2 (by decide +kernel) (by decide) rfl (by decide +kernel) (.inr ⟨_, rfl⟩) ?a3 ?a4) ?a5 (by decide +kernel)) ?a6) dn)
            case a2 =>
              rintro m rfl
              exact ⟨ks, by rw [List.map_map]; rfl, by omega, rfl⟩
            case a3 =>
              rintro ks' rfl p hp v F5 H5 g r
              have S5 := S4.blk (vs := [4]) (j := 4) g r
              have hva5 : ((L2.wipe σ4 [4]).set 4 (some v))[2]? = some (some (.ref a)) := by
                rw [List.getElem?_set_ne (by decide)]
                rw [wipe_get, if_neg (by decide)]
                exact hva
              have w5 := hw.grow g
              refine Blk.one (fun Y oY => ?_) fun _ Y oY => by walk_at "xd"
              refine XB.to (b_eq (d1 := .int ((unl (Bfs.topsAt (l.map (·.1)) p)).length : Nat)) (d2 := .int 1) oY (XD.xh (x_lenSet oY.toOk0 oY.calm hlen hset (x_ixD (d := tP p) oY ?q1 (keyD_tP p) w5 (by walk_at "ix") hva5 (by decide +kernel) ?q2) ?q3 (by decide +kernel) (by decide +kernel))) x_int.xh rfl rfl) (unl_eq _)
              case q1 => walk_at "xd"
              case q2 =>
                rw [look_tops, if_pos hp]
              case q3 =>
                refine Nat.lt_of_le_of_lt (Bfs.topsAt_len (f := f) hm.nd (fun z hz' => ?_) p) (by decide)
                obtain ⟨n, hn⟩ := (hz z).mp hz'
                exact Bfs.goes_stand hst hn
            case a4 =>
              intro h
              cases h
            case a5 =>
              rintro d ⟨ks', rfl, rfl⟩
              refine ⟨(ks'.filter fun p => Bfs.oneOnly (Bfs.topsAt (l.map (·.1)) p)).map Bfs.plst, ?_, fun r hr => ?_, ?_⟩
              · unfold kept
                rw [List.map_map]
                rfl
              · obtain ⟨z, _, rfl⟩ := List.mem_map.mp hr
                intro e
                cases e
              · exact srtR_eq ((Bfs.firm_perm hst hz hk hkm).symm.map _) (Bfs.firmL_up f s)
            case a6 =>
              rw [List.map_map]
              rfl
end
end Roll

namespace Roll
open PySem L2 Lay
def walkedO (C0 C1 C2 C3 : Addr) (f : Flo.Rows) (s : Sta.Sd) (cs : List Nat) : Out := if Flo.okF f = true then (if Sta.isCell f s.1 = true then (if Die.isLie s.2 = true then (match Sta.walk f s cs with
  | some t => .val (tSd t)
  | none => .err C3) else .err C2) else .err C1) else .err C0
def rWalked (C0 C1 C2 C3 : Addr) (ds : List PyData) (r : Out) : Prop := ∃ (f : Flo.Rows) (s : Sta.Sd) (cs : List Nat), shortF f ∧ ds = [fl f, tSd s, .str (tx cs)] ∧ r = walkedO C0 C1 C2 C3 f s cs
section
variable {M : Md} {C0 C1 C2 C3 : Addr}
theorem fc_walked {f : Addr} {fd : FuncData} (F : Fun M.K "walked" "walked" s_walked f fd) (gm : M.mg "walked" = some (.ref f)) (bd : Binds M.K fd ["floor", "stand", "rolls"] [])
    (st : Steps M) (ec : Ec M "NoRoll" C3) (cF : Fc M (L2.CX M.P M.w) "must_be_floor" 1 (spG M.K (rMustF C0))) (cS : Fc M (L2.CX M.P M.w) "must_be_stand" 4 (spG M.K (rMustS C1 C2))) (cN : Fc M CX0 "next_stand" 2 (spG M.K rNext)) : Fc M (L2.CX M.P M.w) "walked" 5 (spG M.K (rWalked C0 C1 C2 C3)) := by
  refine fc_ofX F gm bd sc_walked (fun ds r h => ?_) (by decide) fun X E o fs tk ds r h F0 H σ Q S dn => ?_
  · obtain ⟨f, s, cs, _, rfl, _⟩ := h
    rfl
  · obtain ⟨f, s, cs, hs, rfl, rfl⟩ := h
    unfold walkedO at dn
    refine s_cons ?_
    refine s_must o tk S cF (by walk_at "xa") ⟨f, hs, rfl, rfl⟩ (by decide) (by decide +kernel) (by decide +kernel) ?_
    cases h0 : Flo.okF f with
    | false =>
      rw [h0, if_neg Bool.false_ne_true] at dn
      rw [if_neg Bool.false_ne_true]
      exact dn
    | true =>
      rw [h0, if_pos rfl] at dn
      rw [if_pos rfl]
      intro v F1 H1 g1 _
      have S1 := S.grow g1
      have dn := dn.grow g1
      refine s_cons ?_
      refine s_must o tk S1 cS (by walk_at "xa") ⟨f, s, h0, rfl, rfl⟩ (by decide) (by decide +kernel) (by decide +kernel) ?_
      cases h1 : Sta.isCell f s.1 with
      | false =>
        rw [h1, if_neg Bool.false_ne_true] at dn
        rw [if_neg Bool.false_ne_true]
        exact dn
      | true =>
        rw [h1, if_pos rfl] at dn
        rw [if_pos rfl]
        cases h2 : Die.isLie s.2 with
        | false =>
          rw [h2, if_neg Bool.false_ne_true] at dn
          rw [if_neg Bool.false_ne_true]
          exact dn
        | true =>
          rw [h2, if_pos rfl] at dn
          rw [if_pos rfl]
          intro v F2 H2 g2 _
          have S2 := S1.grow g2
          have dn := dn.grow g2
          refine s_cons ?_
          refine t_forS o fs S2 (by walk_at "ix") (tx cs) (by walk_at "xd") (fun i F' σ' H' => ∃ t : Sta.Sd, Sta.walk f s (cs.take i) = some t ∧ Grow F2 H2 F' H' ∧ Stt M.K F' H' σ' [some (fl f), some (tSd t), some (.str (tx cs)), none, none]) ?_ ?_ ?_
          · intro F' H' g S'
            exact ⟨s, rfl, g, S'.less ⟨.inr rfl, .inr rfl, .inr rfl, .inl rfl, .inl rfl, trivial⟩⟩
          · rintro i c F' σ' H' hi e1 e2 ⟨t, ht, g, S'⟩
            have hi' := tx_at hi
            have dn := dn.grow g
            have S3 := S'.set (i := 3) (v := .str ⟨#[c]⟩) (d := .str ⟨#[c]⟩) (.str _)
            have hw : Sta.walk f s (cs.take (i + 1)) = Sta.next f t c := by
              rw [take_snoc hi', Sta.walk_snoc, ht]
              rfl
            have hno : Sta.next f t c = none → Sta.walk f s cs = none := fun hn => by
              rw [← List.take_append_drop (i + 1) cs, Sta.walk_app, hw, hn]
              rfl
            refine s_cons ?_
            refine' t_if (c := !(Sta.stepC c).isSome) S3 (b_ninSteps o st (by walk_at "xd") (by decide +kernel)) ?ta ?fa
            case ta =>
              intro hc F4 H4 g4 S4
              rw [Bool.not_eq_true'] at hc
              have hsn : Sta.stepC c = none := by
                cases e : Sta.stepC c with
                | none => rfl
                | some d => rw [e] at hc; cases hc
              have hn : Sta.next f t c = none := by
                unfold Sta.next
                rw [hsn]
              rw [hno hn] at dn
              exact s_one (t_raise o tk PySem.F.excBase_ValueError ec.xc ec.g ec.kp ec.sb ec.ty (dn F4 H4 g4))
            case fa =>
              intro hc F4 H4 g4 S4
              rw [Bool.not_eq_false'] at hc
              rw [Sta.step_letter] at hc
              refine s_nil (s_cons (t_set (d := oS (Sta.next f t c)) o fs S4 (by walk_at "ix") (x_call o cN pz0 (by walk_at "xa") ⟨f, t, c, ⟨h0, hc⟩, rfl, rfl⟩ (by decide) (by decide +kernel)) (fun v5 F5 H5 g5 S5 => ?_) (by decide +kernel)))
              have dn := (dn.grow g4).grow g5
              refine s_cons ?_
              cases hn : Sta.next f t c with
              | none =>
                rw [hn] at S5
                refine' t_if (c := true) S5 (XB.to (b_isN (d1 := .none) ?q1) rfl) ?t2 (fun z => Bool.noConfusion z)
                case q1 => exact XD.xh (d := .none) (by walk_at "xd")
                case t2 =>
                  intro _ F6 H6 g6 S6
                  rw [hno hn] at dn
                  exact s_one (t_raise o tk PySem.F.excBase_ValueError ec.xc ec.g ec.kp ec.sb ec.ty (dn F6 H6 g6))
              | some u =>
                rw [hn] at S5 hw
                refine' t_if (c := false) S5 (XB.to (b_isN (d1 := tSd u) ?q2) rfl) (fun z => Bool.noConfusion z) ?t3
                case q2 => exact XD.xh (d := tSd u) (by walk_at "xd")
                case t3 =>
                  intro _ F6 H6 g6 S6
                  refine s_nil (s_one (t_set (d := tSd u) o fs S6 (by walk_at "ix") (by walk_at "xd") (fun v7 F7 H7 g7 S7 => ?_) (by decide +kernel)))
                  exact ⟨F7, ((g4.ex.trans g5.ex).trans g6.ex).trans g7.ex, g7.le, u, hw, (((g.trans g4).trans g5).trans g6).trans g7, S7.less ⟨.inr rfl, .inr rfl, .inr rfl, .inl rfl, .inl rfl, trivial⟩⟩
          · rintro F' σ' H' e1 e2 ⟨t, ht, g, S'⟩
            rw [tx_size, List.take_of_length_le (Nat.le_refl _)] at ht
            rw [ht] at dn
            exact s_one (t_done (E := E) S' (by walk_at "xd") (dn.grow g))
end
end Roll

namespace Roll
open PySem L2 Lay
/-! way -/
theorem eqv_tSd (s t : Sta.Sd) : PyData.eqv (tSd s) (tSd t) = decide (s = t) := by
  have e : PyData.eqv (tSd s) (tSd t) = (PyData.eqv (tP s.1) (tP t.1) && (PyData.eqv (tL s.2) (tL t.2) && true)) := rfl
  rw [e, eqv_tP, eqv_tL, Bool.and_true]
  obtain ⟨a, b⟩ := s
  obtain ⟨c, d⟩ := t
  by_cases h1 : a = c
  · by_cases h2 : b = d
    · subst h1 h2
      simp
    · simp [h2]
  · simp [h1]
open Classical in
noncomputable def goodAt (f : Flo.Rows) (o s : Sta.Sd) (c : Nat) : Option (Nat × Sta.Sd) := match Sta.next f s c with
  | none => none
  | some t => if (∃ n, Bfs.Dist f o t n ∧ Bfs.Dist f o s (n + 1)) then some (c, t) else none
theorem goodAt_no {f : Flo.Rows} {o s : Sta.Sd} {c : Nat} (h : ∀ u, ¬ Bfs.Good f o s c u) : goodAt f o s c = none := by
  unfold goodAt
  cases hn : Sta.next f s c with
  | none => rfl
  | some t => exact if_neg fun z => h t ⟨hn, z⟩
theorem goodAt_yes {f : Flo.Rows} {o s t : Sta.Sd} {c : Nat} (h : Bfs.Good f o s c t) : goodAt f o s c = some (c, t) := by
  unfold goodAt
  rw [h.1]
  exact if_pos h.2
abbrev pG (p : Nat × Sta.Sd) : PyData := .tuple [.str ⟨#[p.1]⟩, tSd p.2]
noncomputable def goods (f : Flo.Rows) (o s : Sta.Sd) (cs : List Nat) : List (Nat × Sta.Sd) := cs.filterMap (goodAt f o s)
theorem goods_len (f : Flo.Rows) (o s : Sta.Sd) (cs : List Nat) : (goods f o s cs).length ≤ cs.length := List.length_filterMap_le _ _
theorem goods_first {f : Flo.Rows} {o s t : Sta.Sd} {a b : List Nat} {c : Nat} (h : ∀ d ∈ a, ∀ u, ¬ Bfs.Good f o s d u) (g : Bfs.Good f o s c t) : (goods f o s (a ++ c :: b))[0]? = some (c, t) := by
  unfold goods
  rw [List.filterMap_append, List.filterMap_eq_nil_iff.mpr (fun d hd => goodAt_no (h d hd)), List.nil_append, List.filterMap_cons, goodAt_yes g]
  rfl
theorem goods_snoc {f : Flo.Rows} {o s : Sta.Sd} {cs : List Nat} {c j : Nat} (h : cs[j]? = some c) : goods f o s (cs.take (j + 1)) = goods f o s (cs.take j) ++ (goodAt f o s c).toList := by
  unfold goods
  rw [take_snoc h, List.filterMap_append]
  rw [List.filterMap_cons, List.filterMap_nil]
  cases goodAt f o s c <;> rfl
/-- what way tells -/
def wayR (C4 : Addr) (f : Flo.Rows) (s t : Sta.Sd) (r : Out) : Prop := (∃ cs, Bfs.Way f t s cs ∧ r = .val (.str (tx cs))) ∨ ((¬ ∃ n, Bfs.Goes f t s n) ∧ r = .err C4)
def wayO (C0 C1 C2 : Addr) (f : Flo.Rows) (s t : Sta.Sd) (r : Out) : Out := if Flo.okF f = true then (if Sta.isCell f s.1 = true then (if Die.isLie s.2 = true then (if Sta.isCell f t.1 = true then (if Die.isLie t.2 = true then r else .err C2) else .err C1) else .err C2) else .err C1) else .err C0
def rWay (C0 C1 C2 C4 : Addr) (ds : List PyData) (r : Out) : Prop := ∃ (f : Flo.Rows) (s t : Sta.Sd) (r' : Out), (shortF f ∧ (Flo.okF f = true → Bfs.isStand f s → Bfs.isStand f t → wayR C4 f s t r')) ∧ ds = [fl f, tSd s, tSd t] ∧ r = wayO C0 C1 C2 f s t r'
theorem way_len {f : Flo.Rows} {s t : Sta.Sd} {cs : List Nat} (hf : Flo.okF f = true) (ht : Bfs.isStand f t) {m : Bfs.Mp} (hm : Bfs.IsMap f t m) : ∀ {s : Sta.Sd} {n : Nat}, Bfs.Dist f t s n → n ≤ 1536
  | s, n, hd => by
    obtain ⟨cs, hw, hl⟩ := Bfs.way_ex ht hd
    have h1 : ∀ {s : Sta.Sd} {cs : List Nat}, Bfs.Way f t s cs → ∀ n, Bfs.Dist f t s n → ∀ k, k ≤ n → ∃ u, Bfs.Dist f t u k := by
      intro s cs w
      induction w with
      | nil =>
        intro n hd k hk
        have := hd.uniq (Bfs.Dist.self f t)
        have : k = 0 := by omega
        subst this
        exact ⟨t, Bfs.Dist.self f t⟩
      | cons _ _ _ hg _ ih =>
        intro n hd k hk
        obtain ⟨_, j, g1, g2⟩ := hg
        have := g2.uniq hd
        by_cases e : k = n
        · subst e
          exact ⟨_, hd⟩
        · exact ih j g1 k (by omega)
    have h2 := h1 hw n hd
    have hml := Bfs.map_len ht hm.nd (fun t n h => (hm.iff t n).mp h)
    have hc := cells_len hf
    have hsub : (List.range (n + 1)).length ≤ (m.map (·.2)).length := Bfs.nodup_le List.nodup_range fun k hk => by
      rw [List.mem_range] at hk
      obtain ⟨u, hu⟩ := h2 k (by omega)
      exact List.mem_map.mpr ⟨(u, k), (hm.iff _ _).mpr hu, rfl⟩
    rw [List.length_range, List.length_map] at hsub
    omega
section
variable {M : Md} {C0 C1 C2 C4 : Addr}
theorem fc_way {f : Addr} {fd : FuncData} (F : Fun M.K "way" "way" s_way f fd) (gm : M.mg "way" = some (.ref f)) (bd : Binds M.K fd ["floor", "one", "other"] [])
    (hR : Gc M "ROLLS" (.str "ensw")) (ec : Ec M "NoWay" C4) (cF : Fc M (L2.CX M.P M.w) "must_be_floor" 1 (spG M.K (rMustF C0))) (cS : Fc M (L2.CX M.P M.w) "must_be_stand" 4 (spG M.K (rMustS C1 C2))) (cN : Fc M CX0 "next_stand" 2 (spG M.K rNext))
    (cD : Fc M CX0 "distances" 3 (spG M.K (rDistances M.w))) : Fc M (L2.CX M.P M.w) "way" 5 (spG M.K (rWay C0 C1 C2 C4)) := by
  refine fc_ofX F gm bd sc_way (fun ds r h => ?_) (by decide) fun X E o fs tk ds r h F0 H σ Q S dn => ?_
  · obtain ⟨f, s, t, r', _, rfl, _⟩ := h
    rfl
  · obtain ⟨f, s, t, r', ⟨hs, hr⟩, rfl, rfl⟩ := h
    unfold wayO at dn
    refine s_cons ?_
    refine s_must o tk S cF (by walk_at "xa") ⟨f, hs, rfl, rfl⟩ (by decide) (by decide +kernel) (by decide +kernel) ?_
    cases h0 : Flo.okF f with
    | false =>
      rw [h0, if_neg Bool.false_ne_true] at dn
      rw [if_neg Bool.false_ne_true]
      exact dn
    | true =>
      rw [h0, if_pos rfl] at dn
      rw [if_pos rfl]
      intro v F1 H1 g1 _
      have S1 := S.grow g1
      have dn := dn.grow g1
      refine s_cons ?_
      refine s_must o tk S1 cS (by walk_at "xa") ⟨f, s, h0, rfl, rfl⟩ (by decide) (by decide +kernel) (by decide +kernel) ?_
      cases h1 : Sta.isCell f s.1 with
      | false =>
        rw [h1, if_neg Bool.false_ne_true] at dn
        rw [if_neg Bool.false_ne_true]
        exact dn
      | true =>
        rw [h1, if_pos rfl] at dn
        rw [if_pos rfl]
        cases h2 : Die.isLie s.2 with
        | false =>
          rw [h2, if_neg Bool.false_ne_true] at dn
          rw [if_neg Bool.false_ne_true]
          exact dn
        | true =>
          rw [h2, if_pos rfl] at dn
          rw [if_pos rfl]
          intro v F2 H2 g2 _
          have S2 := S1.grow g2
          have dn := dn.grow g2
          refine s_cons ?_
          refine s_must o tk S2 cS (by walk_at "xa") ⟨f, t, h0, rfl, rfl⟩ (by decide) (by decide +kernel) (by decide +kernel) ?_
          cases h3 : Sta.isCell f t.1 with
          | false =>
            rw [h3, if_neg Bool.false_ne_true] at dn
            rw [if_neg Bool.false_ne_true]
            exact dn
          | true =>
            rw [h3, if_pos rfl] at dn
            rw [if_pos rfl]
            cases h4 : Die.isLie t.2 with
            | false =>
              rw [h4, if_neg Bool.false_ne_true] at dn
              rw [if_neg Bool.false_ne_true]
              exact dn
            | true =>
              rw [h4, if_pos rfl] at dn
              rw [if_pos rfl]
              intro v F3 H3 g3 _
              have S3 := S2.grow g3
              have dn := dn.grow g3
              have hst : Bfs.isStand f s := ⟨h1, h2⟩
              have htt : Bfs.isStand f t := ⟨h3, h4⟩
              have hr := hr h0 hst htt
              refine s_cons (t_setD o fs S3 (by walk_at "ix") (k_call (P := mapP f t) o cD pz0 (by walk_at "xa") ⟨f, t, ⟨h0, htt⟩, rfl, rfl⟩ (by decide) (by decide +kernel)) (fun m a F4 H4 hm g4 w4 S4 => ?_) (by decide +kernel))
              obtain ⟨l, rfl, hm⟩ := hm
              have hml := Bfs.map_len htt hm.nd (fun t n h => (hm.iff t n).mp h)
              have hva : (σ.set 3 (some (.ref a)))[3]? = some (some (.ref a)) := List.getElem?_set_self (by rw [← S3.ln]; exact Nat.le_of_ble_eq_true rfl)
              have inM : ∀ {u : Sta.Sd} {n : Nat}, Bfs.Dist f t u n → lookD (l.map enM) (tSd u) = some (.int (n : Int)) := fun h => look_some hm.nd ((hm.iff _ _).mpr h)
              refine s_cons ?_
              refine' t_if (c := !(lookD (l.map enM) (tSd s)).isSome) S4 (b_ninD (d := tSd s) o (by walk_at "xd") (keyD_sd s) w4 (by walk_at "ix") hva (by decide +kernel)) ?t1 ?f1
              case t1 =>
                intro hc F5 H5 g5 S5
                rcases hr with ⟨cs, hw, _⟩ | ⟨_, rfl⟩
                · have hg := Bfs.Goes.back hst ⟨cs, rfl, hw.walk⟩
                  obtain ⟨k, _, hd⟩ := Bfs.dist_of hg
                  rw [inM hd] at hc
                  cases hc
                · exact s_one (t_raise o tk PySem.F.excBase_ValueError ec.xc ec.g ec.kp ec.sb ec.ty ((dn.grow g4) F5 H5 g5))
              case f1 =>
                intro hc F5 H5 g5 S5
                obtain ⟨n0, hd0⟩ : ∃ n, Bfs.Dist f t s n := by
                  by_cases hin : s ∈ l.map (·.1)
                  · obtain ⟨⟨u, n⟩, hq, rfl⟩ := List.mem_map.mp hin
                    exact ⟨n, (hm.iff _ _).mp hq⟩
                  · rw [look_none hin] at hc
                    cases hc
                obtain ⟨cs0, hw0, rfl⟩ : ∃ cs, Bfs.Way f t s cs ∧ r' = .val (.str (tx cs)) := by
                  rcases hr with h | ⟨h, _⟩
                  · exact h
                  · exact absurd ⟨n0, hd0.1⟩ h
                have hlen : cs0.length ≤ 1536 := by
                  rw [hw0.len hd0]
                  exact way_len (s := s) (cs := []) h0 htt hm hd0
                refine s_nil (s_cons (t_set (d := .str (tx [])) o fs S5 (by walk_at "ix") (XD.to (x_str (x := "")) (by rw [tx_nil])) (fun v6 F6 H6 g6 S6 => ?_) (by decide +kernel)))
                have hva6 : ((σ.set 3 (some (.ref a))).set 4 (some v6))[3]? = some (some (.ref a)) := by rw [List.getElem?_set_ne (by decide)]; exact hva
                refine s_cons ?_
                refine t_while o (fun n F' σ' H' => ∃ (here : Sta.Sd) (dcs cs : List Nat) (nd : Nat), (n = cs.length ∧ cs0 = dcs ++ cs ∧ Bfs.Way f t here cs ∧ Bfs.Dist f t here nd) ∧ OwD M.K M.w F3 H3 F' H' a (l.map enM) ∧ σ'[3]? = some (some (.ref a)) ∧ Stt M.K F' H' σ' [some (fl f), some (tSd here), some (tSd t), none, some (.str (tx dcs)), none, none, none]) cs0.length ⟨s, [], cs0, n0, ⟨rfl, rfl, hw0, hd0⟩, (w4.grow g5).grow g6, hva6, S6.less ⟨.inr rfl, .inr rfl, .inr rfl, .inl rfl, .inr rfl, .inl rfl, .inl rfl, .inl rfl, trivial⟩⟩ S6.le ?_
                rintro n F' σ' H' e1 e2 ⟨here, dcs, cs, nd, ⟨rfl, hcs, hw, hd⟩, hw', hva', S'⟩
                have hhs : Bfs.isStand f here := Bfs.goes_stand htt hd.1
                refine ⟨!decide (here = t), XB.to (b_ne (d1 := tSd here) (d2 := tSd t) o ?c1 ?c2 rfl rfl) (by rw [eqv_tSd]), fun hb F7 H7 g7 => ?_, fun hb F7 H7 g7 => ?_⟩
                case c1 => walk_at "xh"
                case c2 => walk_at "xh"
                · have hne : here ≠ t := fun z => by
                    rw [decide_eq_true z] at hb
                    cases hb
                  have S7 := S'.grow g7
                  have hw7 := hw'.grow g7
                  cases hw with
                  | nil => exact absurd rfl hne
                  | @cons _ then' la c lb cs1 hne' hsp hno hgd hwn =>
                    refine s_cons (t_setO o fs S7 (by walk_at "ix") (x_lst a_nil (Nat.le_of_ble_eq_true rfl)) (fun q us F8 H8 g8 fF8 fH8 hl8 r8 S8 => ?_) (by decide +kernel))
                    have w8 := hw7.grow g8
                    have hl8' : Ow M.K F3 H3 F8 H8 q (([] : List (Nat × Sta.Sd)).map pG) := ⟨w8.g, fF8, hw7.g.kp.free fH8, us, hl8, r8⟩
                    have hva8 : (σ'.set 5 (some (.ref q)))[3]? = some (some (.ref a)) := by rw [List.getElem?_set_ne (by decide)]; exact hva'
                    have hvl8 : (σ'.set 5 (some (.ref q)))[5]? = some (some (.ref q)) := List.getElem?_set_self (by rw [← S7.ln]; exact Nat.le_of_ble_eq_true rfl)
                    let Pw : Nat → Hp → L2.St → Hp → Prop := fun j F' σ' H' => (OwD M.K M.w F3 H3 F' H' a (l.map enM) ∧ Ow M.K F3 H3 F' H' q ((goods f t here (([101, 110, 115, 119] : List Nat).take j)).map pG)) ∧ (σ'[3]? = some (some (.ref a)) ∧ σ'[5]? = some (some (.ref q))) ∧ Stt M.K F' H' σ' [some (fl f), some (tSd here), some (tSd t), none, some (.str (tx dcs)), none, none, none]
                    let Mid : L2.St → Hp → Prop := fun σ'' H'' => ∃ F'', Same F7 F'' ∧ Pw 4 F'' σ'' H''
                    refine s_cut Mid ?d1 ?d2
                    case d1 =>
                      refine t_forS o fs S8 (by walk_at "ix") "ensw" (by walk_at "xd") (fun j F9 σ9 H9 => Pw j F9 σ9 H9) ?h0 ?hs ?hd (by decide +kernel)
                      case h0 =>
                        intro F9 H9 g9 S9
                        exact ⟨⟨w8.grow g9, hl8'.grow g9⟩, ⟨hva8, hvl8⟩, S9.less ⟨.inr rfl, .inr rfl, .inr rfl, .inl rfl, .inr rfl, .inl rfl, .inl rfl, .inl rfl, trivial⟩⟩
                      case hd =>
                        rintro F9 σ9 H9 e3 e4 P
                        have e4 : ("ensw" : Str).cps.size = 4 := by decide +kernel
                        rw [e4] at P
                        exact ⟨F9, g8.ex.trans e3, P⟩
                      case hs =>
                        rintro j c' F9 σ9 H9 hj e3 e4 ⟨⟨hw9, hl9⟩, ⟨hva9, hvl9⟩, S9⟩
                        have hj' : ([101, 110, 115, 119] : List Nat)[j]? = some c' := by
                          rw [← ensw_list]
                          simpa using hj
                        have hcl : decide (c' ∈ ([101, 110, 115, 119] : List Nat)) = true := decide_eq_true (List.mem_of_getElem? hj')
                        have S10 := S9.set (i := 6) (v := .str ⟨#[c']⟩) (d := .str ⟨#[c']⟩) (.str _)
                        have hva10 : (σ9.set 6 (some (.str ⟨#[c']⟩)))[3]? = some (some (.ref a)) := by rw [List.getElem?_set_ne (by decide)]; exact hva9
                        have hvl10 : (σ9.set 6 (some (.str ⟨#[c']⟩)))[5]? = some (some (.ref q)) := by rw [List.getElem?_set_ne (by decide)]; exact hvl9
                        refine s_cons (t_set (d := oS (Sta.next f here c')) o fs S10 (by walk_at "ix") (x_call o cN pz0 (a_cons ?p1 (a_cons (d := tSd here) ?p2 (a_cons ?p3 a_nil))) ⟨f, here, c', ⟨h0, hcl⟩, rfl, rfl⟩ (by decide) (by decide +kernel)) (fun v11 F11 H11 g11 S11 => ?_) (by decide +kernel))
                        case p1 => walk_at "xd"
                        case p2 => walk_at "xd"
                        case p3 => walk_at "xd"
                        have hva11 : ((σ9.set 6 (some (.str ⟨#[c']⟩))).set 7 (some v11))[3]? = some (some (.ref a)) := by rw [List.getElem?_set_ne (by decide)]; exact hva10
                        have hvl11 : ((σ9.set 6 (some (.str ⟨#[c']⟩))).set 7 (some v11))[5]? = some (some (.ref q)) := by rw [List.getElem?_set_ne (by decide)]; exact hvl10
                        have hw11 := hw9.grow g11
                        have hl11 := hl9.grow g11
                        have gs := goods_snoc (f := f) (o := t) (s := here) hj'
                        refine s_one ?_
                        cases hn : Sta.next f here c' with
                        | none =>
                          rw [hn] at S11
                          have ga : goodAt f t here c' = none := goodAt_no fun u hu => by
                            have := hu.1
                            rw [hn] at this
                            cases this
                          rw [ga] at gs
                          refine' t_if (c := false) S11 (XB.to (XW.xb (w_and (c := false) (c' := false) (XB.to (b_notN (d1 := .none) ?q1) rfl) fun z => Bool.noConfusion z)) rfl) (fun z => Bool.noConfusion z) ?q2
                          case q1 => exact XD.xh (d := .none) (by walk_at "xd")
                          case q2 =>
                            intro _ F12 H12 g12 S12
                            refine s_nil ⟨F12, g11.ex.trans g12.ex, g12.le, ⟨hw11.grow g12, ?_⟩, ⟨hva11, hvl11⟩, S12.less ⟨.inr rfl, .inr rfl, .inr rfl, .inl rfl, .inr rfl, .inl rfl, .inl rfl, .inl rfl, trivial⟩⟩
                            rw [gs, Option.toList_none, List.append_nil]
                            exact hl11.grow g12
                        | some u =>
                          rw [hn] at S11
                          obtain ⟨k, _, hk⟩ := Bfs.dist_of (hd.1.snoc hn)
                          have near := Bfs.near_one htt hhs hn hk hd
                          refine' t_if (c := decide ((k : Int) < (nd : Int))) S11 (XB.to (XW.xb (w_and (c := true) (c' := decide ((k : Int) < (nd : Int))) (XB.to (b_notN (d1 := tSd u) ?q3) rfl) fun _ => w_and1 (b_lt (i := (k : Int)) (j := (nd : Int)) (XD.xh (x_ixD (d := tSd u) o ?q4 (keyD_sd u) hw11 (by walk_at "ix") hva11 (by decide +kernel) (inM hk))) (XD.xh (x_ixD (d := tSd here) o ?q5 (keyD_sd here) hw11 (by walk_at "ix") hva11 (by decide +kernel) (inM hd)))))) rfl) ?q6 ?q7
                          case q3 => exact XD.xh (d := tSd u) (by walk_at "xd")
                          case q4 => walk_at "xd"
                          case q5 => walk_at "xd"
                          case q6 =>
                            intro hc F12 H12 g12 S12
                            have hlt : k < nd := by
                              have := of_decide_eq_true hc
                              omega
                            have hk1 := near.mp hlt
                            have ga : goodAt f t here c' = some (c', u) := goodAt_yes ⟨hn, k, hk, by rw [hk1]; exact hd⟩
                            rw [ga] at gs
                            have hw12 := hw11.grow g12
                            have hl12 := hl11.grow g12
                            refine s_one (t_append (d := pG (c', u)) o S12 hl12 (by walk_at "ix") hvl11 (by rw [List.length_map]; have := goods_len f t here (([101, 110, 115, 119] : List Nat).take j); rw [List.length_take] at this; have e5 : ([101, 110, 115, 119] : List Nat).length = 4 := rfl; omega) ?r3 (fun us us' F13 H13 g13 hl13 S13 w13 => ?_) (by decide +kernel))
                            case r3 => walk_at "xd"
                            have hw13 := (hw12.grow g13).apart (ob := .lst us') hl13 w13.fF hl12.fH
                            refine ⟨F13, (g11.ex.trans g12.ex).trans g13.ex, S13.le, ⟨hw13, ?_⟩, ⟨hva11, hvl11⟩, S13.less ⟨.inr rfl, .inr rfl, .inr rfl, .inl rfl, .inr rfl, .inl rfl, .inl rfl, .inl rfl, trivial⟩⟩
                            rw [gs, Option.toList_some, List.map_append]
                            exact w13
                          case q7 =>
                            intro hc F12 H12 g12 S12
                            have hnl : ¬ k < nd := by
                              have := of_decide_eq_false hc
                              omega
                            have ga : goodAt f t here c' = none := goodAt_no fun u' hu => by
                              obtain ⟨e5, j', d1, d2⟩ := hu
                              rw [hn] at e5
                              cases e5
                              have := d1.uniq hk
                              have := d2.uniq hd
                              omega
                            rw [ga] at gs
                            refine s_nil ⟨F12, g11.ex.trans g12.ex, g12.le, ⟨hw11.grow g12, ?_⟩, ⟨hva11, hvl11⟩, S12.less ⟨.inr rfl, .inr rfl, .inr rfl, .inl rfl, .inr rfl, .inl rfl, .inl rfl, .inl rfl, trivial⟩⟩
                            rw [gs, Option.toList_none, List.append_nil]
                            exact hl11.grow g12
                    case d2 =>
                      rintro σ9 H9 ⟨F9, e9, ⟨hw9, hl9⟩, ⟨hva9, hvl9⟩, S9⟩
                      have hfirst : atI ((goods f t here (([101, 110, 115, 119] : List Nat).take 4)).map pG) 0 = some (pG (c, then')) := by
                        refine atI_nat (j := 0) ?_
                        rw [List.getElem?_map, show (([101, 110, 115, 119] : List Nat).take 4) = la ++ c :: lb from hsp, goods_first hno hgd]
                        try rfl
                      have hl1 : dcs.length + 1 ≤ 1536 := by
                        have := congrArg List.length hcs
                        rw [List.length_append, List.length_cons] at this
                        omega
                      refine s_cons (t_set (d := .str (tx (dcs ++ [c]))) o fs S9 (by walk_at "ix") (XD.to (x_adds (x := tx dcs) (y := ⟨#[c]⟩) ?u1 (x_ixT (ds := [.str ⟨#[c]⟩, tSd then']) o.toOk0 (x_ixO (d := pG (c, then')) o.toOk0 hl9 (by walk_at "ix") hvl9 (by decide +kernel) x_int hfirst) x_int rfl) ?u2) ?u3) (fun v10 F10 H10 g10 S10 => ?_) (by decide +kernel))
                      case u1 => walk_at "xd"
                      case u2 =>
                        rw [tx_len]
                        exact Nat.le_trans hl1 (by decide)
                      case u3 => rw [← tx_one, tx_app]
                      have hl10 := hl9.grow g10
                      have hvl10 : (σ9.set 4 (some v10))[5]? = some (some (.ref q)) := by rw [List.getElem?_set_ne (by decide)]; exact hvl9
                      refine s_one (t_set (d := tSd then') o fs S10 (by walk_at "ix") (x_ixT (ds := [.str ⟨#[c]⟩, tSd then']) o.toOk0 (x_ixO (d := pG (c, then')) o.toOk0 hl10 (by walk_at "ix") hvl10 (by decide +kernel) x_int hfirst) x_int rfl) (fun v11 F11 H11 g11 S11 => ?_) (by decide +kernel))
                      obtain ⟨hnx, k, hk, _⟩ := hgd
                      refine ⟨cs1.length, F11, by rw [List.length_cons]; omega, (e9.trans g10.ex).trans g11.ex, g11.le, then', dcs ++ [c], cs1, k, ⟨rfl, by rw [hcs, List.append_assoc]; rfl, hwn, hk⟩, (hw9.grow g10).grow g11, ?_, S11⟩
                      rw [List.getElem?_set_ne (by decide), List.getElem?_set_ne (by decide)]
                      exact hva9
                · have he : here = t := by
                    rw [Bool.not_eq_false', decide_eq_true_eq] at hb
                    exact hb
                  have hnil : cs = [] := by
                    cases hw with
                    | nil => rfl
                    | cons hne' => exact absurd he hne'
                  rw [hnil, List.append_nil] at hcs
                  rw [hcs] at dn
                  have w' := hw'.grow g7
                  have S8 := S'.grow g7
                  exact s_one (t_done (E := E) S8 (by walk_at "xd") (dn.grow w'.g))
end
end Roll

namespace Roll
open PySem L2 Lay
/-! _law_called, _law_met: who refuses, and with what -/
def comeN (f : Flo.Rows) (s : Sta.Sd) (k : Int) : Int := if Flo.okF f = true then (if Sta.isCell f s.1 = true then (if Die.isLie s.2 = true then k else 2) else 1) else 0
open Classical in
noncomputable def due12 (w : Nat) (f : Flo.Rows) (s t : Sta.Sd) : Int :=
  if w = 1 then comeN f s (comeN f t (if (∃ n, Bfs.Goes f t s n) then -1 else 4))
  else if w = 2 then comeN f s (if Sta.isCell f t.1 = true then -1 else 1)
  else if w = 5 then (if Flo.okF f = true then (if Sta.isCell f s.1 = true then -1 else 1) else 0)
  else comeN f s (-1)
def outN (C0 C1 C2 C4 : Addr) (n : Int) : Out := if n = -1 then .val .none else if n = 0 then .err C0 else if n = 1 then .err C1 else if n = 2 then .err C2 else .err C4
def rCalled (C0 C1 C2 C4 : Addr) (ds : List PyData) (r : Out) : Prop := ∃ (w : Nat) (f : Flo.Rows) (s t : Sta.Sd), (w ≤ 5 ∧ shortF f) ∧ ds = [.int (w : Int), fl f, tSd s, tSd t] ∧ r = outN C0 C1 C2 C4 (due12 w f s t)
section
variable {K : PySem.W.Frag} {F H : Hp} {Qd : VK} {E : XK} {M : Md} {σ : L2.St} {Q : VK} {C0 C1 C2 C4 : Addr}
/-- an end of the one kind out of an end of the other -/
theorem come_ends {f : Flo.Rows} {s : Sta.Sd} {r : Out} {n : Int} (dn : Done M.K F H Qd E (outN C0 C1 C2 C4 (comeN f s n))) (h : Flo.okF f = true → Bfs.isStand f s → Done M.K F H Qd E (outN C0 C1 C2 C4 n) → EndsIn M (fun cls d _ H => E cls d H) σ F H Q r) :
    EndsIn M (fun cls d _ H => E cls d H) σ F H Q (comeO C0 C1 C2 f s r) := by
  unfold comeN at dn
  unfold comeO
  by_cases h0 : Flo.okF f = true
  · rw [if_pos h0] at dn ⊢
    by_cases h1 : Sta.isCell f s.1 = true
    · rw [if_pos h1] at dn ⊢
      by_cases h2 : Die.isLie s.2 = true
      · rw [if_pos h2] at dn ⊢
        exact h h0 ⟨h1, h2⟩ dn
      · rw [if_neg h2] at dn ⊢
        exact dn
    · rw [if_neg h1] at dn ⊢
      exact dn
  · rw [if_neg h0] at dn ⊢
    exact dn
theorem comeN_id {f : Flo.Rows} (hf : Flo.okF f = true) {s : Sta.Sd} (hs : Bfs.isStand f s) {n : Int} : comeN f s n = n := by
  unfold comeN
  rw [if_pos hf, if_pos hs.1, if_pos hs.2]
theorem comeN_on {f : Flo.Rows} (hf : Flo.okF f = true) {s : Sta.Sd} {n : Int} : comeN f s n = if Sta.isCell f s.1 = true then (if Die.isLie s.2 = true then n else 2) else 1 := if_pos hf
end
section
variable {M : Md} {C0 C1 C2 C3 C4 : Addr}
open Classical in
theorem fc_called {f : Addr} {fd : FuncData} (F : Fun M.K "_law_called" "_law_called" s__law_called f fd) (gm : M.mg "_law_called" = some (.ref f)) (bd : Binds M.K fd ["which", "floor", "one", "other"] [])
    (cCo : Fc M (L2.CX M.P M.w) "come_to" 5 (spG M.K (rCome M.w C0 C1 C2))) (cWy : Fc M (L2.CX M.P M.w) "way" 5 (spG M.K (rWay C0 C1 C2 C4))) (cEn : Fc M (L2.CX M.P M.w) "ends" 5 (spG M.K (rEnds C0 C1 C2))) (cFi : Fc M (L2.CX M.P M.w) "firm" 5 (spG M.K (rFirm C0 C1 C2)))
    (cWa : Fc M (L2.CX M.P M.w) "walked" 5 (spG M.K (rWalked C0 C1 C2 C3))) (cTu : Fc M (L2.CX M.P M.w) "turns" 6 (spG M.K (rTurns C0 C1))) : Fc M (L2.CX M.P M.w) "_law_called" 7 (spG M.K (rCalled C0 C1 C2 C4)) := by
  refine fc_ofX F gm bd sc__law_called (fun ds r h => ?_) (by decide) fun X E o fs tk ds r h F0 H σ Q S dn => ?_
  · obtain ⟨w, f, s, t, _, rfl, _⟩ := h
    rfl
  · obtain ⟨w, f, s, t, ⟨hw, hs⟩, rfl, rfl⟩ := h
    let Mid : Nat → L2.St → Hp → Prop := fun k σ' H' => ∃ F', (w ≤ k → due12 w f s t = -1) ∧ Grow F0 H F' H' ∧ Stt M.K F' H' σ' [some (.int (w : Int)), some (fl f), some (tSd s), some (tSd t)]
    have sel : ∀ (k : Nat), PyData.eqv (.int (w : Int)) (.int (k : Int)) = decide (w = k) := fun k => by
      rw [eqv_int, Bool.eq_iff_iff, beq_iff_eq, decide_eq_true_eq]
      omega
    refine s_cut (Mid 0) ?a0 ?b0
    case a0 =>
      refine' t_if (c := decide (w = 0)) S (XB.to (b_eq (d1 := .int (w : Int)) (d2 := .int 0) o (by walk_at "xh") x_int.xh rfl rfl) (sel 0)) ?t0 ?f0
      case f0 =>
        intro hc F1 H1 g1 S1
        have e := of_decide_eq_false hc
        exact s_nil ⟨F1, fun h => absurd (by omega) e, g1, S1⟩
      case t0 =>
        intro hc F1 H1 g1 S1
        have e := of_decide_eq_true hc
        have dn := dn.grow g1
        have de : due12 w f s t = comeN f s (-1) := by unfold due12; rw [if_neg (by omega), if_neg (by omega), if_neg (by omega)]
        rw [de] at dn
        refine s_one (s_must o tk S1 cCo (by walk_at "xa") ⟨f, s, hs, rfl, rfl⟩ (by decide) (by decide +kernel) (by decide +kernel) (come_ends dn fun x0 x1 _ => ?_))
        intro m p F2 H2 _ g2 _ _ _
        exact ⟨F2, fun _ => de.trans (comeN_id x0 x1), g1.trans g2, S1.grow g2⟩
    case b0 =>
    clear S
    rintro σ0 H0 ⟨F00, due, G0, S⟩
    refine s_cut (Mid 1) ?a1 ?b1
    case a1 =>
      refine' t_if (c := decide (w = 1)) S (XB.to (b_eq (d1 := .int (w : Int)) (d2 := .int 1) o (by walk_at "xh") x_int.xh rfl rfl) (sel 1)) ?t1 ?f1
      case f1 =>
        intro hc F1 H1 g1 S1
        have e := of_decide_eq_false hc
        exact s_nil ⟨F1, fun h => due (by omega), G0.trans g1, S1⟩
      case t1 =>
        intro hc F1 H1 g1 S1
        have e := of_decide_eq_true hc
        have dn := (dn.grow G0).grow g1
        have de : due12 w f s t = comeN f s (comeN f t (if (∃ n, Bfs.Goes f t s n) then -1 else 4)) := by unfold due12; exact if_pos e
        rw [de] at dn
        have hex : ∃ r', (Flo.okF f = true → Bfs.isStand f s → Bfs.isStand f t → wayR C4 f s t r') ∧ ((∃ d, r' = .val d ∧ ∃ n, Bfs.Goes f t s n) ∨ (r' = .err C4 ∧ ¬ ∃ n, Bfs.Goes f t s n)) := by
          by_cases hg : ∃ n, Bfs.Goes f t s n
          · by_cases ht : Bfs.isStand f t
            · obtain ⟨n, hn⟩ := hg
              obtain ⟨k, _, hd⟩ := Bfs.dist_of hn
              obtain ⟨cs, hw, _⟩ := Bfs.way_ex ht hd
              exact ⟨_, fun _ _ _ => .inl ⟨cs, hw, rfl⟩, .inl ⟨_, rfl, n, hn⟩⟩
            · exact ⟨.val .none, fun _ _ z => absurd z ht, .inl ⟨_, rfl, hg⟩⟩
          · exact ⟨_, fun _ _ _ => .inr ⟨hg, rfl⟩, .inr ⟨rfl, hg⟩⟩
        obtain ⟨r', hr1, hr2⟩ := hex
        have hwo : wayO C0 C1 C2 f s t r' = comeO C0 C1 C2 f s (comeO C0 C1 C2 f t r') := by
          unfold wayO comeO
          by_cases h0 : Flo.okF f = true
          · simp only [if_pos h0]
          · simp only [if_neg h0]
        refine s_one (s_must o tk S1 cWy (by walk_at "xa") ⟨f, s, t, r', ⟨hs, hr1⟩, rfl, rfl⟩ (by decide) (by decide +kernel) (by decide +kernel) ?_)
        rw [hwo]
        refine come_ends dn fun x0 x1 dn => come_ends dn fun y0 y1 dn => ?_
        rcases hr2 with ⟨d, rfl, hg⟩ | ⟨rfl, hg⟩
        · intro v F2 H2 g2 _
          exact ⟨F2, fun _ => by rw [de, comeN_id x0 x1, comeN_id y0 y1, if_pos hg], (G0.trans g1).trans g2, S1.grow g2⟩
        · rw [if_neg hg] at dn
          exact dn
    case b1 =>
    clear S G0
    rintro σ1 H1 ⟨F1, due, G0, S⟩
    refine s_cut (Mid 2) ?a2 ?b2
    case a2 =>
      refine' t_if (c := decide (w = 2)) S (XB.to (b_eq (d1 := .int (w : Int)) (d2 := .int 2) o (by walk_at "xh") x_int.xh rfl rfl) (sel 2)) ?t2 ?f2
      case f2 =>
        intro hc F1 H1 g1 S1
        have e := of_decide_eq_false hc
        exact s_nil ⟨F1, fun h => due (by omega), G0.trans g1, S1⟩
      case t2 =>
        intro hc F2 H2 g1 S1
        have e := of_decide_eq_true hc
        have dn := (dn.grow G0).grow g1
        have de : due12 w f s t = comeN f s (if Sta.isCell f t.1 = true then -1 else 1) := by unfold due12; rw [if_neg (by omega), if_pos e]
        rw [de] at dn
        refine s_one (s_must o tk S1 cEn (a_cons (d := fl f) ?e1 (a_cons (d := tSd s) ?e2 (a_cons (d := tP t.1) ?e3 a_nil))) ⟨f, s, t.1, hs, rfl, rfl⟩ (by decide) (by decide +kernel) (by decide +kernel) ?e4)
        case e1 => walk_at "xd"
        case e2 => walk_at "xd"
        case e3 => exact x_ixT (ds := [tP t.1, tL t.2]) o.toOk0 (by walk_at "xd") x_int rfl
        case e4 =>
          show EndsIn M _ _ _ _ _ (comeO C0 C1 C2 f s (if Sta.isCell f t.1 = true then Out.own ((Bfs.endsL f s t.1).map tL) else .err C1))
          refine come_ends dn fun x0 x1 dn => ?_
          by_cases h : Sta.isCell f t.1 = true
          · rw [if_pos h]
            intro p vs F3 H3 g3 _ _ _ _
            exact ⟨F3, fun _ => by rw [de, comeN_id x0 x1, if_pos h], (G0.trans g1).trans g3, S1.grow g3⟩
          · rw [if_neg h] at dn ⊢
            exact dn
    case b2 =>
    clear S G0
    rintro σ2 H2 ⟨F2, due, G0, S⟩
    refine s_cut (Mid 3) ?a3 ?b3
    case a3 =>
      refine' t_if (c := decide (w = 3)) S (XB.to (b_eq (d1 := .int (w : Int)) (d2 := .int 3) o (by walk_at "xh") x_int.xh rfl rfl) (sel 3)) ?t3 ?f3
      case f3 =>
        intro hc F1 H1 g1 S1
        have e := of_decide_eq_false hc
        exact s_nil ⟨F1, fun h => due (by omega), G0.trans g1, S1⟩
      case t3 =>
        intro hc F3 H3 g1 S1
        have e := of_decide_eq_true hc
        have dn := (dn.grow G0).grow g1
        have de : due12 w f s t = comeN f s (-1) := by unfold due12; rw [if_neg (by omega), if_neg (by omega), if_neg (by omega)]
        rw [de] at dn
        refine s_one (s_must o tk S1 cFi (by walk_at "xa") ⟨f, s, hs, rfl, rfl⟩ (by decide) (by decide +kernel) (by decide +kernel) (come_ends dn fun x0 x1 _ => ?_))
        intro p vs F4 H4 g4 _ _ _ _
        exact ⟨F4, fun _ => de.trans (comeN_id x0 x1), (G0.trans g1).trans g4, S1.grow g4⟩
    case b3 =>
    clear S G0
    rintro σ3 H3 ⟨F3, due, G0, S⟩
    refine s_cut (Mid 4) ?a4 ?b4
    case a4 =>
      refine' t_if (c := decide (w = 4)) S (XB.to (b_eq (d1 := .int (w : Int)) (d2 := .int 4) o (by walk_at "xh") x_int.xh rfl rfl) (sel 4)) ?t4 ?f4
      case f4 =>
        intro hc F1 H1 g1 S1
        have e := of_decide_eq_false hc
        exact s_nil ⟨F1, fun h => due (by omega), G0.trans g1, S1⟩
      case t4 =>
        intro hc F4 H4 g1 S1
        have e := of_decide_eq_true hc
        have dn := (dn.grow G0).grow g1
        have de : due12 w f s t = comeN f s (-1) := by unfold due12; rw [if_neg (by omega), if_neg (by omega), if_neg (by omega)]
        rw [de] at dn
        refine s_one (s_must o tk S1 cWa (a_cons (d := fl f) ?e5 (a_cons (d := tSd s) ?e6 (a_cons (d := .str (tx [])) ?e7 a_nil))) ⟨f, s, [], hs, rfl, rfl⟩ (by decide) (by decide +kernel) (by decide +kernel) ?e8)
        case e5 => walk_at "xd"
        case e6 => walk_at "xd"
        case e7 => exact XD.to (x_str (x := "")) (by rw [tx_nil])
        case e8 =>
          show EndsIn M _ _ _ _ _ (comeO C0 C1 C2 f s (.val (tSd s)))
          refine come_ends dn fun x0 x1 dn => ?_
          intro v F5 H5 g5 _
          exact ⟨F5, fun _ => de.trans (comeN_id x0 x1), (G0.trans g1).trans g5, S1.grow g5⟩
    case b4 =>
    clear S G0
    rintro σ4 H4 ⟨F4, due, G0, S⟩
    refine s_one ?_
    refine' t_if (c := decide (w = 5)) S (XB.to (b_eq (d1 := .int (w : Int)) (d2 := .int 5) o (by walk_at "xh") x_int.xh rfl rfl) (sel 5)) ?t5 ?f5
    case f5 =>
      intro hc F5 H5 g1 S1
      have e := of_decide_eq_false hc
      rw [due (by omega)] at dn
      exact s_nil ((dn.grow G0) _ F5 H5 g1 .non)
    case t5 =>
      intro hc F5 H5 g1 S1
      have e := of_decide_eq_true hc
      have dn := (dn.grow G0).grow g1
      have de : due12 w f s t = (if Flo.okF f = true then (if Sta.isCell f s.1 = true then -1 else 1) else 0) := by unfold due12; rw [if_neg (by omega), if_neg (by omega), if_pos e]
      rw [de] at dn
      refine s_one (s_must o tk S1 cTu (a_cons (d := fl f) ?e9 (a_cons (d := tP s.1) ?e10 a_nil)) ⟨f, s.1, hs, rfl, rfl⟩ (by decide) (by decide +kernel) (by decide +kernel) ?e11)
      case e9 => walk_at "xd"
      case e10 => exact x_ixT (ds := [tP s.1, tL s.2]) o.toOk0 (by walk_at "xd") x_int rfl
      case e11 =>
        unfold turnsO
        by_cases h0 : Flo.okF f = true
        · rw [if_pos h0] at dn ⊢
          by_cases h1 : Sta.isCell f s.1 = true
          · rw [if_pos h1] at dn ⊢
            intro p vs F6 H6 g6 _ _ _ _
            exact dn _ F6 H6 g6 .non
          · rw [if_neg h1] at dn ⊢
            exact dn
        · rw [if_neg h0] at dn ⊢
          exact dn
end
end Roll

namespace Roll
open PySem L2 Lay
/-- the classes of errors by number: NoFloor, NoCell, NoLie, NoRoll, NoWay -/
structure Errs (M : Md) (CD C0 C1 C2 C3 C4 : Addr) : Prop where
  gD : M.mg "DieError" = some (.ref CD)
  g0 : M.mg "NoFloor" = some (.ref C0)
  g1 : M.mg "NoCell" = some (.ref C1)
  g2 : M.mg "NoLie" = some (.ref C2)
  g3 : M.mg "NoRoll" = some (.ref C3)
  g4 : M.mg "NoWay" = some (.ref C4)
  gV : M.mg "ValueError" = none
  gI : M.mg "isinstance" = none
/-- an error of the class at C, the w-th -/
structure Er (M : Md) (CD C0 C1 C2 C3 C4 C : Addr) (w : Int) : Prop where
  ec : ExcC M.K C
  ex : PySem.W.exmOne M.K (.ref C) (.ref CD) = some true
  k0 : PySem.W.kitOne M.K (.ref C) (.ref C0) = some (((0 : Nat) : Int) == w)
  k1 : PySem.W.kitOne M.K (.ref C) (.ref C1) = some (((1 : Nat) : Int) == w)
  k2 : PySem.W.kitOne M.K (.ref C) (.ref C2) = some (((2 : Nat) : Int) == w)
  k3 : PySem.W.kitOne M.K (.ref C) (.ref C3) = some (((3 : Nat) : Int) == w)
  k4 : PySem.W.kitOne M.K (.ref C) (.ref C4) = some (((4 : Nat) : Int) == w)
  kV : PySem.W.kitOne M.K (.ref C) (.type "ValueError") = some true
abbrev gi (sc : Scope) (x : Str) : Prop := sc.names.lookup x = some .globalImplicit
/-- what a def that is told must see in its scope -/
def toldB (sc : Scope) : Bool := decide (gi sc "isinstance") && decide (gi sc "DieError") && decide (gi sc "NoFloor") && decide (gi sc "NoCell") &&
  decide (gi sc "NoLie") && decide (gi sc "NoRoll") && decide (gi sc "NoWay") && decide (gi sc "ValueError") &&
  nameB sc "e" && nameB sc "marks" && decide (sc.names.lookup ("e" : Str) = some .local) && locB sc "marks"
structure ToldS (sc : Scope) : Prop where
  i : gi sc "isinstance"
  d : gi sc "DieError"
  n0 : gi sc "NoFloor"
  n1 : gi sc "NoCell"
  n2 : gi sc "NoLie"
  n3 : gi sc "NoRoll"
  n4 : gi sc "NoWay"
  v : gi sc "ValueError"
  ne : nameB sc "e" = true
  nm : nameB sc "marks" = true
  le : sc.names.lookup ("e" : Str) = some .local
  lm : locB sc "marks" = true
theorem told_of {sc : Scope} (h : toldB sc = true) : ToldS sc := by
  unfold toldB at h
  simp only [Bool.and_eq_true, decide_eq_true_eq] at h
  obtain ⟨⟨⟨⟨⟨⟨⟨⟨⟨⟨⟨h1, h2⟩, h3⟩, h4⟩, h5⟩, h6⟩, h7⟩, h8⟩, h9⟩, h10⟩, h11⟩, h12⟩ := h
  exact ⟨h1, h2, h3, h4, h5, h6, h7, h8, h9, h10, h11, h12⟩
section
variable {M : Md} {CD C0 C1 C2 C3 C4 C : Addr} {w : Int}
theorem suite_ok {Z : Cx} {N : List Str} {sc : Scope} {a : Addr} {σ : L2.St} {env : List (Option PyData)} {F H : Hp} {D : Ends} {im ie : Nat} {u0 u1 u2 u3 u4 u5 u6 u7 u8 u9 u10 u11 u12 u13 u14 u15 u16 u17 u18 u19 u20 u21 u22 u23 u24 u25 u26 u27 u28 u29 u30 u31 : Pos}
    (su : Suite M Z N sc a (.ref C) none) (er : Errs M CD C0 C1 C2 C3 C4) (ee : Er M CD C0 C1 C2 C3 C4 C w) (ts : ToldS sc) (S : Stt M.K F H σ env) (hm : At N im "marks") (he : At N ie "e") (hne : im ≠ ie) (hlt : im < env.length) (hv : σ[ie]? = some (some (.ref a)))
    (kk : ∀ v F' H', Grow F H F' H' → Dn M.K F' v (.list ((marksOf w).map PyData.bool)) → D.nx (σ.set im (some v)) H') :
    WS Z [.Assign [.Name "marks" u0] (.List [.Call (.Name "isinstance" u1) [.Name "e" u2, .Name "NoFloor" u3] [] u4, .Call (.Name "isinstance" u5) [.Name "e" u6, .Name "NoCell" u7] [] u8, .Call (.Name "isinstance" u9) [.Name "e" u10, .Name "NoLie" u11] [] u12, .Call (.Name "isinstance" u13) [.Name "e" u14, .Name "NoRoll" u15] [] u16] u17) u18,
      .Assign [.Name "marks" u19] (.BinOp (.Name "marks" u20) .Add (.List [.Call (.Name "isinstance" u21) [.Name "e" u22, .Name "NoWay" u23] [] u24, .Call (.Name "isinstance" u25) [.Name "e" u26, .Name "ValueError" u27] [] u28] u29) u30) u31] D σ H := by
  have o := su.ok
  have nb := ts.nm
  unfold nameB at nb
  simp only [Bool.and_eq_true, Bool.not_eq_true'] at nb
  refine s_cons (s_set (d := .list ([((0 : Nat) : Int) == w, ((1 : Nat) : Int) == w, ((2 : Nat) : Int) == w, ((3 : Nat) : Int) == w].map PyData.bool)) o su.fs im (XO.xd (x_lst (a_cons (x_isE su ee.ec er.gI ie he.get hv er.g0 ee.k0 ts.i ts.n0 ts.ne (by decide +kernel)) (a_cons (x_isE su ee.ec er.gI ie he.get hv er.g1 ee.k1 ts.i ts.n1 ts.ne (by decide +kernel))
    (a_cons (x_isE su ee.ec er.gI ie he.get hv er.g2 ee.k2 ts.i ts.n2 ts.ne (by decide +kernel)) (a_cons (x_isE su ee.ec er.gI ie he.get hv er.g3 ee.k3 ts.i ts.n3 ts.ne (by decide +kernel)) a_nil)))) (Nat.le_of_ble_eq_true rfl))) S.le (fun v F1 H1 g1 r1 => ?_) hm.get ts.lm)
  have hv1 : (σ.set im (some v))[ie]? = some (some (.ref a)) := by
    rw [List.getElem?_set_ne hne]
    exact hv
  have hmv : (σ.set im (some v))[im]? = some (some v) := by
    exact List.getElem?_set_self (by rw [← S.ln]; exact hlt)
  refine s_one (s_set (d := .list ((marksOf w).map PyData.bool)) o su.fs im (XD.to (XO.xd (x_addl (x_slot o im hmv r1 hm.get nb.1.1 nb.1.2 nb.2) (XO.xd (x_lst (a_cons (x_isE su ee.ec er.gI ie he.get hv1 er.g4 ee.k4 ts.i ts.n4 ts.ne (by decide +kernel)) (a_cons (x_isEB su ee.ec er.gI ie he.get hv1 er.gV (show bootBuiltins ("ValueError" : Str) = some (.type "ValueError") by decide +kernel) ee.kV ts.i ts.v ts.ne (by decide +kernel) (by decide +kernel)) a_nil)) (Nat.le_of_ble_eq_true rfl))) (Nat.le_of_ble_eq_true rfl))) rfl) g1.le (fun v2 F2 H2 g2 r2 => ?_) hm.get ts.lm)
  rw [List.set_set]
  exact kk v2 F2 H2 (g1.trans g2) r2

/-- found = None; marks = []; try: found = e0 except DieError as e: marks = ..; return (found, marks) -/
theorem told_ok {X : Cx} {N : List Str} {sc : Scope} {k : Nat} {σ : L2.St} {env : List (Option PyData)} {F H : Hp} {D : Ends} {E : XK} {jf im ie c1 c2 : Nat} {e0 : Expr} {r : Out} {pe v0 v1 v2 v3 v4 v5 v6 v7 v8 v9 v10 v11 v12 v13 v14 v15 v16 v17 v18 v19 v20 v21 v22 v23 v24 v25 v26 v27 v28 v29 v30 v31 v32 v33 v34 v35 v36 v37 v38 w0 w1 w2 w3 w4 w5 w6 : Pos}
    (o : Ok M X N sc k) (fs : Fs X) (er : Errs M CD C0 C1 C2 C3 C4) (ts : ToldS sc) (S : Stt M.K F H σ env) (hf : At N jf "found") (hm : At N im "marks") (he : At N ie "e") (d1 : jf ≠ im) (d2 : jf ≠ ie) (d3 : im ≠ ie) (l1 : jf < env.length) (l2 : im < env.length) (l3 : ie < env.length) (nf : nameB sc "found" = true) (lf : locB sc "found" = true)
    (hs : ∀ Y : Cx, swapsWith e0 (some (.Name "found" v6)) pe.line Y.env = pure false)
    (hr : (∃ d, r = .val d) ∨ (∃ C w, r = .err C ∧ Er M CD C0 C1 C2 C3 C4 C w))
    (hcall : ∀ (W : WX) (Y : Cx) (Q : VK) (σ' : L2.St) (F' H' : Hp), Ok M Y N sc k → Takes Y W → Stt M.K F' H' σ' ((env.set jf (some .none)).set im (some (.list []))) → EndsIn M W σ' F' H' Q r → WE Y e0 σ' H' Q)
    (kv : ∀ d, r = .val d → Done M.K F H D.rt E (.val (.tuple [d, .list []]))) (kx : ∀ C w, r = .err C → Er M CD C0 C1 C2 C3 C4 C w → Done M.K F H D.rt E (.val (.tuple [.none, .list ((marksOf w).map PyData.bool)]))) :
    WS X [.Assign [.Name "found" v0] (.Constant .none c1 v1) v2, .Assign [.Name "marks" v3] (.List [] v4) v5, .Try [.Assign [.Name "found" v6] e0 pe] [.ExceptHandler (some (.Name "DieError" w0)) (some "e") [.Assign [.Name "marks" v7] (.List [.Call (.Name "isinstance" v8) [.Name "e" v9, .Name "NoFloor" v10] [] v11, .Call (.Name "isinstance" v12) [.Name "e" v13, .Name "NoCell" v14] [] v15, .Call (.Name "isinstance" v16) [.Name "e" v17, .Name "NoLie" v18] [] v19, .Call (.Name "isinstance" v20) [.Name "e" v21, .Name "NoRoll" v22] [] v23] v24) v25, .Assign [.Name "marks" v26] (.BinOp (.Name "marks" v27) .Add (.List [.Call (.Name "isinstance" v28) [.Name "e" v29, .Name "NoWay" v30] [] v31, .Call (.Name "isinstance" v32) [.Name "e" v33, .Name "ValueError" v34] [] v35] v36) v37) v38] w1] [] [] w2, .Return (some (.Tuple [.Name "found" w3, .Name "marks" w4] c2 w5)) w6] D σ H := by
  refine s_cons (t_set o fs S hf x_non (fun v1 F1 H1 g1 S1 => ?_) lf)
  refine s_cons (t_set o fs S1 hm (XO.xd (x_lst a_nil (Nat.le_of_ble_eq_true rfl))) (fun v2 F2 H2 g2 S2 => ?_) ts.lm)
  have ln2 : ((env.set jf (some PyData.none)).set im (some (PyData.list []))).length = env.length := by rw [List.length_set, List.length_set]
  refine s_cons ?_
  rcases hr with ⟨d, rfl⟩ | ⟨C, w, rfl, ee⟩
  · refine t_try (c := .ref CD) o fs he ts.le ts.d (by decide +kernel) er.gD fun W hW Y oY fY tkY => ?_
    refine s_one (s_setW oY.toOk0 fY jf (hcall W Y _ _ F2 H2 oY tkY S2 ?_) hf.get lf (hs Y))
    intro v F3 H3 g3 r3
    have S3 := (S2.grow g3).set (i := jf) r3
    refine s_one (t_done (E := E) S3 ?_ ((((kv d rfl).grow g1).grow g2).grow g3))
    refine x_tup (a_cons (v_ o S3 hf ?_ nf) (a_cons (v_ o S3 hm ?_ ts.nm) a_nil)) (Nat.le_of_ble_eq_true rfl)
    · exact List.getElem?_set_self (by rw [ln2]; exact l1)
    · rw [List.getElem?_set_ne d1]
      exact List.getElem?_set_self (by rw [List.length_set]; exact l2)
  · refine t_try (c := .ref CD) o fs he ts.le ts.d (by decide +kernel) er.gD fun W hW Y oY fY tkY => ?_
    refine s_one (s_setW oY.toOk0 fY jf (hcall W Y _ _ F2 H2 oY tkY S2 ?_) hf.get lf (hs Y))
    intro F3 H3 g3
    refine hW C _ _ ee.ex fun Z a ha su => ?_
    have S3 := (S2.grow g3).lose (i := ie) (o := some (.ref a))
    refine suite_ok su er ee ts S3 hm he d3 (by rw [List.length_set, ln2]; exact l2) (List.getElem?_set_self (by rw [← (S2.grow g3).ln, ln2]; exact l3)) fun v F4 H4 g4 r4 => ?_
    show WS X _ D _ _
    have S4 := ((S3.grow g4).set (i := im) r4).lose (i := ie) (o := none)
    refine s_one (t_done (E := E) S4 ?_ (((((kx C w rfl ee).grow g1).grow g2).grow g3).grow g4))
    refine x_tup (a_cons (v_ o S4 hf ?_ nf) (a_cons (v_ o S4 hm ?_ ts.nm) a_nil)) (Nat.le_of_ble_eq_true rfl)
    · rw [List.getElem?_set_ne (Ne.symm d2), List.getElem?_set_ne (Ne.symm d1), List.getElem?_set_ne (Ne.symm d2), List.getElem?_set_ne (Ne.symm d1)]
      exact List.getElem?_set_self l1
    · rw [List.getElem?_set_ne (Ne.symm d3)]
      exact List.getElem?_set_self (by rw [List.length_set, ln2]; exact l2)
abbrev refD (w : Int) : PyData := .tuple [.none, .list ((marksOf w).map PyData.bool)]
theorem er_two {M : Md} {CD C0 C1 C2 C3 C4 C : Addr} {w v : Int} (e : Er M CD C0 C1 C2 C3 C4 C w) (e' : Er M CD C0 C1 C2 C3 C4 C v) (hw : w = 0 ∨ w = 1 ∨ w = 2 ∨ w = 3 ∨ w = 4) : v = w := by
  have h : ∀ n : Nat, w = (n : Int) → (((n : Nat) : Int) == w) = (((n : Nat) : Int) == v) → v = w := fun n h1 h2 => by
    subst h1
    rw [beq_self_eq_true] at h2
    exact (eq_of_beq h2.symm).symm
  rcases hw with h1 | h1 | h1 | h1 | h1
  · exact h 0 h1 (Option.some.inj (e.k0.symm.trans e'.k0))
  · exact h 1 h1 (Option.some.inj (e.k1.symm.trans e'.k1))
  · exact h 2 h1 (Option.some.inj (e.k2.symm.trans e'.k2))
  · exact h 3 h1 (Option.some.inj (e.k3.symm.trans e'.k3))
  · exact h 4 h1 (Option.some.inj (e.k4.symm.trans e'.k4))
theorem told_ok2 {X : Cx} {N : List Str} {sc : Scope} {k : Nat} {σ : L2.St} {env : List (Option PyData)} {F H : Hp} {D : Ends} {E : XK} {jf im ie c1 c2 : Nat} {e0 : Expr} {r : Out} {dd : PyData} {pe v0 v1 v2 v3 v4 v5 v6 v7 v8 v9 v10 v11 v12 v13 v14 v15 v16 v17 v18 v19 v20 v21 v22 v23 v24 v25 v26 v27 v28 v29 v30 v31 v32 v33 v34 v35 v36 v37 v38 w0 w1 w2 w3 w4 w5 w6 : Pos}
    (o : Ok M X N sc k) (fs : Fs X) (er : Errs M CD C0 C1 C2 C3 C4) (ts : ToldS sc) (S : Stt M.K F H σ env) (hf : At N jf "found") (hm : At N im "marks") (he : At N ie "e") (d1 : jf ≠ im) (d2 : jf ≠ ie) (d3 : im ≠ ie) (l1 : jf < env.length) (l2 : im < env.length) (l3 : ie < env.length) (nf : nameB sc "found" = true) (lf : locB sc "found" = true)
    (hs : ∀ Y : Cx, swapsWith e0 (some (.Name "found" v6)) pe.line Y.env = pure false)
    (hr : (∃ d, r = .val d ∧ dd = .tuple [d, .list []]) ∨ (∃ C w, r = .err C ∧ Er M CD C0 C1 C2 C3 C4 C w ∧ (w = 0 ∨ w = 1 ∨ w = 2 ∨ w = 3 ∨ w = 4) ∧ dd = refD w))
    (hcall : ∀ (W : WX) (Y : Cx) (Q : VK) (σ' : L2.St) (F' H' : Hp), Ok M Y N sc k → Takes Y W → Stt M.K F' H' σ' ((env.set jf (some .none)).set im (some (.list []))) → EndsIn M W σ' F' H' Q r → WE Y e0 σ' H' Q)
    (dn : Done M.K F H D.rt E (.val dd)) :
    WS X [.Assign [.Name "found" v0] (.Constant .none c1 v1) v2, .Assign [.Name "marks" v3] (.List [] v4) v5, .Try [.Assign [.Name "found" v6] e0 pe] [.ExceptHandler (some (.Name "DieError" w0)) (some "e") [.Assign [.Name "marks" v7] (.List [.Call (.Name "isinstance" v8) [.Name "e" v9, .Name "NoFloor" v10] [] v11, .Call (.Name "isinstance" v12) [.Name "e" v13, .Name "NoCell" v14] [] v15, .Call (.Name "isinstance" v16) [.Name "e" v17, .Name "NoLie" v18] [] v19, .Call (.Name "isinstance" v20) [.Name "e" v21, .Name "NoRoll" v22] [] v23] v24) v25, .Assign [.Name "marks" v26] (.BinOp (.Name "marks" v27) .Add (.List [.Call (.Name "isinstance" v28) [.Name "e" v29, .Name "NoWay" v30] [] v31, .Call (.Name "isinstance" v32) [.Name "e" v33, .Name "ValueError" v34] [] v35] v36) v37) v38] w1] [] [] w2, .Return (some (.Tuple [.Name "found" w3, .Name "marks" w4] c2 w5)) w6] D σ H := by
  refine told_ok (E := E) (r := r) o fs er ts S hf hm he d1 d2 d3 l1 l2 l3 nf lf hs ?_ hcall ?_ ?_
  · rcases hr with ⟨d, h1, _⟩ | ⟨C, w, h1, h2, _⟩
    · exact .inl ⟨d, h1⟩
    · exact .inr ⟨C, w, h1, h2⟩
  · intro d hd
    rcases hr with ⟨d', h1, h2⟩ | ⟨C, w, h1, _⟩
    · rw [h1] at hd
      cases hd
      rw [← h2]
      exact dn
    · rw [h1] at hd
      cases hd
  · intro C w hd ee
    rcases hr with ⟨d', h1, h2⟩ | ⟨C', w', h1, h2, h3, h4⟩
    · rw [h1] at hd
      cases hd
    · rw [h1] at hd
      cases hd
      have := er_two h2 ee h3
      subst this
      show Done M.K F H D.rt E (.val (refD w))
      rw [← h4]
      exact dn
end
end Roll

namespace Roll
open PySem L2 Lay
section
variable {M : Md} {CD C0 C1 C2 C3 C4 : Addr}
/-- marks = []; try: e0 except DieError as e: marks = ..; return marks -/
theorem met_ok {X : Cx} {N : List Str} {sc : Scope} {k : Nat} {σ : L2.St} {env : List (Option PyData)} {F H : Hp} {D : Ends} {E : XK} {im ie : Nat} {e0 : Expr} {r : Out} {dd : PyData} {pe v3 v4 v5 v7 v8 v9 v10 v11 v12 v13 v14 v15 v16 v17 v18 v19 v20 v21 v22 v23 v24 v25 v26 v27 v28 v29 v30 v31 v32 v33 v34 v35 v36 v37 v38 w0 w1 w2 w4 w6 : Pos}
    (o : Ok M X N sc k) (fs : Fs X) (er : Errs M CD C0 C1 C2 C3 C4) (ts : ToldS sc) (S : Stt M.K F H σ env) (hm : At N im "marks") (he : At N ie "e") (d3 : im ≠ ie) (l2 : im < env.length) (l3 : ie < env.length)
    (hs : ∀ Y : Cx, swapsWith e0 none pe.line Y.env = pure false)
    (hr : (∃ d, r = .val d ∧ dd = .list []) ∨ (∃ C w, r = .err C ∧ Er M CD C0 C1 C2 C3 C4 C w ∧ dd = .list ((marksOf w).map PyData.bool)))
    (hcall : ∀ (W : WX) (Y : Cx) (Q : VK) (σ' : L2.St) (F' H' : Hp), Ok M Y N sc k → Takes Y W → Stt M.K F' H' σ' (env.set im (some (.list []))) → EndsIn M W σ' F' H' Q r → WE Y e0 σ' H' Q)
    (dn : Done M.K F H D.rt E (.val dd)) :
    WS X [.Assign [.Name "marks" v3] (.List [] v4) v5, .Try [.Expr e0 pe] [.ExceptHandler (some (.Name "DieError" w0)) (some "e") [.Assign [.Name "marks" v7] (.List [.Call (.Name "isinstance" v8) [.Name "e" v9, .Name "NoFloor" v10] [] v11, .Call (.Name "isinstance" v12) [.Name "e" v13, .Name "NoCell" v14] [] v15, .Call (.Name "isinstance" v16) [.Name "e" v17, .Name "NoLie" v18] [] v19, .Call (.Name "isinstance" v20) [.Name "e" v21, .Name "NoRoll" v22] [] v23] v24) v25, .Assign [.Name "marks" v26] (.BinOp (.Name "marks" v27) .Add (.List [.Call (.Name "isinstance" v28) [.Name "e" v29, .Name "NoWay" v30] [] v31, .Call (.Name "isinstance" v32) [.Name "e" v33, .Name "ValueError" v34] [] v35] v36) v37) v38] w1] [] [] w2, .Return (some (.Name "marks" w4)) w6] D σ H := by
  refine s_cons (t_set o fs S hm (XO.xd (x_lst a_nil (Nat.le_of_ble_eq_true rfl))) (fun v2 F2 H2 g2 S2 => ?_) ts.lm)
  have ln2 : (env.set im (some (PyData.list []))).length = env.length := List.length_set
  refine s_cons ?_
  rcases hr with ⟨d, rfl, rfl⟩ | ⟨C, w, rfl, ee, rfl⟩
  · refine t_try (c := .ref CD) o fs he ts.le ts.d (by decide +kernel) er.gD fun W hW Y oY fY tkY => ?_
    refine s_one (s_expr (hcall W Y _ _ F2 H2 oY tkY S2 ?_) (hs Y))
    intro v F3 H3 g3 r3
    have S3 := S2.grow g3
    exact s_one (t_done (E := E) S3 (v_ o S3 hm (List.getElem?_set_self l2) ts.nm) ((dn.grow g2).grow g3))
  · refine t_try (c := .ref CD) o fs he ts.le ts.d (by decide +kernel) er.gD fun W hW Y oY fY tkY => ?_
    refine s_one (s_expr (hcall W Y _ _ F2 H2 oY tkY S2 ?_) (hs Y))
    intro F3 H3 g3
    refine hW C _ _ ee.ex fun Z a ha su => ?_
    have S3 := (S2.grow g3).lose (i := ie) (o := some (.ref a))
    refine suite_ok su er ee ts S3 hm he d3 (by rw [List.length_set, ln2]; exact l2) (List.getElem?_set_self (by rw [← (S2.grow g3).ln, ln2]; exact l3)) fun v F4 H4 g4 r4 => ?_
    show WS X _ D _ _
    have S4 := ((S3.grow g4).set (i := im) r4).lose (i := ie) (o := none)
    refine s_one (t_done (E := E) S4 (v_ o S4 hm ?_ ts.nm) (((dn.grow g2).grow g3).grow g4))
    rw [List.getElem?_set_ne (Ne.symm d3)]
    exact List.getElem?_set_self (by rw [List.length_set, ln2]; exact l2)
def metD (n : Int) : PyData := .list (if n = -1 then [] else (marksOf n).map PyData.bool)
def rMet (ds : List PyData) (r : Out) : Prop := ∃ (w : Nat) (f : Flo.Rows) (s t : Sta.Sd), (w ≤ 5 ∧ shortF f) ∧ ds = [.int (w : Int), fl f, tSd s, tSd t] ∧ r = .val (metD (due12 w f s t))
theorem due12_one (w : Nat) (f : Flo.Rows) (s t : Sta.Sd) : due12 w f s t = -1 ∨ due12 w f s t = 0 ∨ due12 w f s t = 1 ∨ due12 w f s t = 2 ∨ due12 w f s t = 4 := by
  have cn : ∀ s n, (n = -1 ∨ n = 0 ∨ n = 1 ∨ n = 2 ∨ n = 4) → (comeN f s n = -1 ∨ comeN f s n = 0 ∨ comeN f s n = 1 ∨ comeN f s n = 2 ∨ comeN f s n = 4) := fun s n h => by
    unfold comeN
    split
    · split
      · split
        · exact h
        · decide
      · decide
    · decide
  unfold due12
  split
  · refine cn _ _ (cn _ _ ?_)
    split <;> decide
  · split
    · refine cn _ _ ?_
      split <;> decide
    · split
      · split
        · split <;> decide
        · decide
      · exact cn _ _ (by decide)
theorem fc_met {f : Addr} {fd : FuncData} (F : Fun M.K "_law_met" "_law_met" s__law_met f fd) (gm : M.mg "_law_met" = some (.ref f)) (bd : Binds M.K fd ["which", "floor", "one", "other"] [])
    (er : Errs M CD C0 C1 C2 C3 C4) (ee0 : Er M CD C0 C1 C2 C3 C4 C0 0) (ee1 : Er M CD C0 C1 C2 C3 C4 C1 1) (ee2 : Er M CD C0 C1 C2 C3 C4 C2 2) (ee4 : Er M CD C0 C1 C2 C3 C4 C4 4) (cB : Fc M (L2.CX M.P M.w) "_law_called" 7 (spG M.K (rCalled C0 C1 C2 C4))) : Fc M CX0 "_law_met" 8 (spG M.K rMet) := by
  refine fc_of F gm bd sc__law_met (fun ds r h => ?_) (by decide) fun X o fs ds r h F0 H σ Q E S dn => ?_
  · obtain ⟨w, f, s, t, _, rfl, _⟩ := h
    rfl
  · obtain ⟨w, f, s, t, hw, rfl, rfl⟩ := h
    refine met_ok (E := E) (dd := metD (due12 w f s t)) (r := outN C0 C1 C2 C4 (due12 w f s t)) o fs er (told_of (by decide +kernel)) S (by walk_at "ix") (by walk_at "ix") (by decide) (Nat.le_of_ble_eq_true rfl) (Nat.le_of_ble_eq_true rfl) (fun _ => rfl) ?_ ?_ dn
    · rcases due12_one w f s t with h | h | h | h | h <;> rw [h]
      · exact .inl ⟨_, rfl, rfl⟩
      · exact .inr ⟨_, 0, rfl, ee0, rfl⟩
      · exact .inr ⟨_, 1, rfl, ee1, rfl⟩
      · exact .inr ⟨_, 2, rfl, ee2, rfl⟩
      · exact .inr ⟨_, 4, rfl, ee4, rfl⟩
    · intro W Y Q' σ' F' H' oY tk S' kk
      exact x_callX oY cB tk S'.le (by walk_at "xa") ⟨w, f, s, t, hw, rfl, rfl⟩ kk (by decide) (by decide +kernel)
end
end Roll

namespace Roll
open PySem L2 Lay
def rCell (ds : List PyData) (r : Out) : Prop := ∃ (ns : List Int) (k : Nat), ds = [scr ns, .int (k : Int)] ∧ r = .val (.int (cellAt ns k))
section
variable {M : Md}
theorem fc_cell_at {f : Addr} {fd : FuncData} (F : Fun M.K "_law_cell_at" "_law_cell_at" s__law_cell_at f fd) (gm : M.mg "_law_cell_at" = some (.ref f)) (bd : Binds M.K fd ["script", "k"] [])
    (hlen : M.mg "len" = none) : Fc M CX0 "_law_cell_at" 1 (spG M.K rCell) := by
  refine fc_of F gm bd sc__law_cell_at (fun ds r h => ?_) (by decide) fun X o fs ds r h F0 H σ Q E S dn => ?_
  · obtain ⟨ns, k, rfl, _⟩ := h
    rfl
  · obtain ⟨ns, k, rfl, rfl⟩ := h
    refine s_cons ?_
    refine' t_if (c := decide ((k : Int) < (ns.length : Nat))) S (b_lt ?c1 (XD.xh (x_lenScr o.toOk0 hlen ?c2 (by decide +kernel)))) ?t ?f
    case c1 => walk_at "xh"
    case c2 => walk_at "xh"
    case t =>
      intro hc F' H' g S'
      have hk : k < ns.length := by
        have := of_decide_eq_true hc
        omega
      refine s_one (t_done (E := E) S' (x_ixScr (ns := ns) (i := k) o.toOk0 (by walk_at "xd") (by walk_at "xd") ?_) (dn.grow g))
      show ns[k]? = some (ns.getD k 0)
      rw [List.getD_eq_getElem?_getD, List.getElem?_eq_getElem hk]
      rfl
    case f =>
      intro hc F' H' g S'
      have hk : ns.length ≤ k := by
        have := of_decide_eq_false hc
        omega
      have e : cellAt ns k = 0 := by
        unfold cellAt
        rw [List.getD_eq_getElem?_getD, List.getElem?_eq_none hk]
        rfl
      rw [e] at dn
      exact s_nil (s_one (t_done (E := E) S' (by walk_at "xd") (dn.grow g)))
end
end Roll

namespace Roll
open PySem L2 Lay
def rMix (ds : List PyData) (r : Out) : Prop := ∃ cell k : Int, ds = [.int cell, .int k] ∧ r = .val (.int (mix cell k))
section
variable {M : Md}
theorem fc_mix {f : Addr} {fd : FuncData} (F : Fun M.K "_law_mix" "_law_mix" s__law_mix f fd) (gm : M.mg "_law_mix" = some (.ref f)) (bd : Binds M.K fd ["cell", "k"] []) : Fc M CX0 "_law_mix" 1 (spG M.K rMix) := by
  refine fc_of F gm bd sc__law_mix (fun ds r h => ?_) (by decide) fun X o fs ds r h F0 H σ Q E S dn => ?_
  · obtain ⟨c, k, rfl, _⟩ := h
    rfl
  · obtain ⟨c, k, rfl, rfl⟩ := h
    have h1 := Int.emod_nonneg (c * 69621 + 7001 * k + 3) (show (2147483629 : Int) ≠ 0 by decide)
    have h2 := Int.emod_lt_of_pos (c * 69621 + 7001 * k + 3) (show (0 : Int) < 2147483629 by decide)
    refine s_cons ?_
    walk_at "set"
    intro v F1 H1 g1 S1
    generalize hm : (c * 69621 + 7001 * k + 3) % 2147483629 = m1 at h1 h2 S1
    have b1 : -(2 ^ 64) < m1 ∧ m1 < 2 ^ 64 := by omega
    have h3 := Int.emod_nonneg (m1 * m1 + 39373 * m1 + k) (show (2147483647 : Int) ≠ 0 by decide)
    have h4 := Int.emod_lt_of_pos (m1 * m1 + 39373 * m1 + k) (show (0 : Int) < 2147483647 by decide)
    refine s_cons ?_
    walk_at "set"
    intro v F2 H2 g2 S2
    generalize hm2 : (m1 * m1 + 39373 * m1 + k) % 2147483647 = m2 at h3 h4 S2
    have b2 : -(2 ^ 64) < m2 ∧ m2 < 2 ^ 64 := by omega
    refine s_one (t_done (E := E) S2 ?_ ((dn.grow g1).grow g2))
    refine XD.to (d1 := .int ((m2 * m2 + 16807 * m2 + 7 * k) % 2147483587)) (by walk_at "xd") ?_
    rw [← hm2, ← hm]
    rfl
end
end Roll

namespace Roll
open PySem L2 Lay
/-! the law's cells, its next stand -/
def rCells (ds : List PyData) (r : Out) : Prop := ∃ f : Flo.Rows, Flo.okF f = true ∧ ds = [fl f] ∧ r = .own ((Sta.cells f).map tP)
section
variable {M : Md}
theorem fc_law_cells {f : Addr} {fd : FuncData} (F : Fun M.K "_law_cells" "_law_cells" s__law_cells f fd) (gm : M.mg "_law_cells" = some (.ref f)) (bd : Binds M.K fd ["floor"] [])
    (hran : M.mg "range" = none) (hlen : M.mg "len" = none) : Fc M CX0 "_law_cells" 1 (spG M.K rCells) := by
  refine fc_of F gm bd sc__law_cells (fun ds r h => ?_) (by decide) fun X o fs ds r h F0 H σ Q E S dn => ?_
  · obtain ⟨f, _, rfl, _⟩ := h
    rfl
  · obtain ⟨f, hf, rfl, rfl⟩ := h
    obtain ⟨hl1, hl2, _⟩ := Flo.okF_of hf
    have hlm : ((f.map tS).length : Nat) = f.length := List.length_map tS
    obtain ⟨r0, hr0, hw0, hm0⟩ := head_at hl1
    have hz0 : (tx r0).length ≤ 100000 := by rw [tx_len]; have := row_len hf hm0; omega
    obtain ⟨hw1, hw2⟩ := wid_le hf
    refine s_cons (t_setO o fs S (by walk_at "ix") (x_lst a_nil (Nat.le_of_ble_eq_true rfl)) (fun l us F1 H1 g1 fF fH hl r S1 => ?_) (by decide +kernel))
    have w1 : Ow M.K F0 H F1 H1 l ((cellsTo f 0).map tP) := ow_new g1 fF fH hl r
    refine s_cons ?_
    refine t_forR o fs S1 (by walk_at "ix") (r_n (n := f.length) o.toOk0 hran (XD.to (x_len o.toOk0 hlen (by walk_at "xh") (by decide +kernel)) (by rw [hlm])) (by omega) (by decide +kernel)) (fun i F' σ' H' => (Ow M.K F0 H F' H' l ((cellsTo f i).map tP) ∧ σ'[1]? = some (some (.ref l))) ∧ Stt M.K F' H' σ' [some (fl f), none, none, none]) ?_ ?_ ?_
    · intro F' H' g S'
      exact ⟨⟨w1.grow g, List.getElem?_set_self (by rw [← S.ln]; exact Nat.le_of_ble_eq_true rfl)⟩, S'.less ⟨.inr rfl, .inl rfl, .inl rfl, .inl rfl, trivial⟩⟩
    · rintro i F' σ' H' hi e1 e2 ⟨⟨w, hv⟩, S'⟩
      have S2 := S'.set (i := 2) (v := .int (0 + (i : Int))) (d := .int (0 + (i : Int))) (.int _)
      have hv2 : (σ'.set 2 (some (.int (0 + (i : Int)))))[1]? = some (some (.ref l)) := by
        rw [List.getElem?_set_ne (by decide)]
        exact hv
      rw [show (0 : Int) + (i : Int) = (i : Int) by omega] at S2 hv2 ⊢
      obtain ⟨r, hr, hmr, hgr⟩ := row_at (f := f) (i := i) hi
      have hwr := wid_row hf hmr
      have hz : (tx r).length ≤ 100000 := by rw [tx_len]; have := row_len hf hmr; omega
      have hlc := cellsTo_len f i
      have hml : Flo.wid f * i ≤ 8 * 8 := Nat.mul_le_mul hw2 (by omega)
      refine s_one (t_extend (ds2 := (((List.range (Flo.wid f)).filter fun j : Nat => decide (Sta.sgn f i j = 46)).map fun j : Nat => ((i : Int), (j : Int))).map tP) o S2 w (by walk_at "ix") hv2 ?z (XO.to (o_lcX (lo := 0) (n := Flo.wid f) o [("column", 3)] 3 (fun j => decide (Sta.sgn f i j = 46)) (fun j => tP ((i : Int), (j : Int))) ?r (by decide +kernel) (by decide) rfl (by decide +kernel) (.inr ⟨_, rfl⟩) (by omega) ?b ?c) ?e) ?k (by decide +kernel))
      case z =>
        rw [List.length_map, List.length_map, List.length_map]
        have := List.length_filter_le (fun j : Nat => decide (Sta.sgn f i j = 46)) (List.range (Flo.wid f))
        rw [List.length_range] at this
        omega
      case r => exact r_n (n := Flo.wid f) o.toOk0 hran (XD.to (x_lenS (z := tx r0) o.toOk0 hlen (XD.xh (x_ixL (ds := f.map tS) o.toOk0 (by walk_at "xd") x_int hr0)) hz0 (by decide +kernel)) (by rw [tx_len, hw0])) (by omega) (by decide +kernel)
      case b =>
        intro j hj F3 H3 g
        have S3 := S2.blk (vs := [3]) (j := 3) (v := .int (0 + (j : Int))) (d := .int (0 + (j : Int))) g (.int _)
        rw [show (0 : Int) + (j : Int) = (j : Int) by omega] at S3 ⊢
        refine Blk.one (fun Y oY => ?_) fun _ Y oY => by walk_at "xd"
        refine XB.to (b_eqS (y := ⟨#[Sta.sgn f i j]⟩) (z := ".") (XD.xh (x_ixS (z := tx r) (x_ixL (ds := f.map tS) oY.toOk0 (by walk_at "xd") (by walk_at "xd") hr) (by walk_at "xd") hz (sign_at hgr (by omega)))) x_str.xh) ?_
        rw [sign_dot, sign_eq]
      case c =>
        intro h
        cases h
      case e =>
        unfold kept
        rw [List.map_map]
        rfl
      case k =>
        intro us us' F3 H3 g hl3 S3 w3
        refine ⟨F3, g.ex, w3.le, ⟨?_, hv2⟩, S3.less ⟨.inr rfl, .inl rfl, .inl rfl, .inl rfl, trivial⟩⟩
        rw [cellsTo_snoc, List.map_append]
        exact w3
    · rintro F' σ' H' e1 e2 ⟨⟨w, hv⟩, S'⟩
      exact s_one (t_retL (E := E) o.toOk0 w (by walk_at "ix") hv dn (by decide +kernel))
end
end Roll

namespace Roll
open PySem L2 Lay
/-! the law's own floor -/
def rareC (z : Int) : Int := ([2, 4, 9, 99] : List Int).getD (z % 4).toNat 2
theorem rare_ix (z : Int) : atI [PyData.int 2, .int 4, .int 9, .int 99] (z % 4) = some (.int (rareC z)) ∧ 1 ≤ rareC z := by
  have h := mod4 z
  unfold rareC
  generalize z % 4 = m at h
  have : m = 0 ∨ m = 1 ∨ m = 2 ∨ m = 3 := by omega
  rcases this with rfl | rfl | rfl | rfl
  · exact ⟨rfl, by decide⟩
  · exact ⟨rfl, by decide⟩
  · exact ⟨rfl, by decide⟩
  · exact ⟨rfl, by decide⟩
def lineC (c1 rare : Int) (i : Nat) (m : Nat) : List Nat := (List.range m).map fun j : Nat => Flo.fsign (mix c1 (10 * (i : Int) + (j : Int)) / 7 % rare == 0)
def rowsC (c1 rare : Int) (m n : Nat) : Flo.Rows := (List.range n).map fun i => lineC c1 rare i m
def floorC (ns : List Int) (most : Int) : Flo.Rows := rowsC (cellAt ns 1) (rareC (cellAt ns 0 / 64)) (1 + cellAt ns 0 / 8 % most).toNat (1 + cellAt ns 0 % most).toNat
theorem floorC_ok (ns : List Int) {most : Int} (h : 1 ≤ most ∧ most ≤ 8) : Flo.okF (floorC ns most) = true := by
  have h1 := Int.emod_nonneg (cellAt ns 0) (show most ≠ 0 by omega)
  have h2 := Int.emod_lt_of_pos (cellAt ns 0) (show 0 < most by omega)
  have h3 := Int.emod_nonneg (cellAt ns 0 / 8) (show most ≠ 0 by omega)
  have h4 := Int.emod_lt_of_pos (cellAt ns 0 / 8) (show 0 < most by omega)
  refine (Flo.okF_rect (n := (1 + cellAt ns 0 % most).toNat) (m := (1 + cellAt ns 0 / 8 % most).toNat) ?_ (by omega) (by omega) fun r hr => ?_).1
  · unfold floorC rowsC
    rw [List.length_map, List.length_range]
  · unfold floorC rowsC at hr
    obtain ⟨i, _, rfl⟩ := List.mem_map.mp hr
    unfold lineC
    refine ⟨by rw [List.length_map, List.length_range], List.all_eq_true.mpr fun c hc => ?_⟩
    obtain ⟨j, _, rfl⟩ := List.mem_map.mp hc
    exact Flo.fsign_sign _
theorem line_snoc (c1 rare : Int) (i m : Nat) : lineC c1 rare i (m + 1) = lineC c1 rare i m ++ [Flo.fsign (mix c1 (10 * (i : Int) + (m : Int)) / 7 % rare == 0)] := by
  unfold lineC
  rw [List.range_succ, List.map_append]
  rfl
theorem rows_snoc (c1 rare : Int) (m n : Nat) : rowsC c1 rare m (n + 1) = rowsC c1 rare m n ++ [lineC c1 rare n m] := by
  unfold rowsC
  rw [List.range_succ, List.map_append]
  rfl
theorem fsign_at (b : Bool) : atI (".#" : Str).cps.toList (if b then 1 else 0) = some (Flo.fsign b) := by
  rw [signs_list]
  cases b <;> rfl
def rFloor (ds : List PyData) (r : Out) : Prop := ∃ (ns : List Int) (most : Int), (1 ≤ most ∧ most ≤ 8) ∧ ds = [scr ns, .int 0, .int most] ∧ r = .own ((floorC ns most).map tS)
local macro_rules | `(tactic| walk_at "rel") => `(tactic| first
  | exact ⟨_, 0, rfl, rfl⟩ | exact ⟨_, 1, rfl, rfl⟩
  | exact ⟨_, _, rfl, rfl⟩)
section
variable {M : Md}
theorem fc_law_floor {f : Addr} {fd : FuncData} (F : Fun M.K "_law_floor" "_law_floor" s__law_floor f fd) (gm : M.mg "_law_floor" = some (.ref f)) (bd : Binds M.K fd ["script", "start", "most"] [])
    (hran : M.mg "range" = none) (hint : M.mg "int" = none) (cC : Fc M CX0 "_law_cell_at" 1 (spG M.K rCell)) (cM : Fc M CX0 "_law_mix" 1 (spG M.K rMix)) : Fc M CX0 "_law_floor" 2 (spG M.K rFloor) := by
  refine fc_of F gm bd sc__law_floor (fun ds r h => ?_) (by decide) fun X o fs ds r h F0 H σ Q E S dn => ?_
  · obtain ⟨ns, most, _, rfl, _⟩ := h
    rfl
  · obtain ⟨ns, most, hm, rfl, rfl⟩ := h
    have hpos : 0 < most := by omega
    unfold floorC at dn
    refine s_cons ?_
    walk_at "set"
    intro v1 F1 H1 g1 S1
    have m1 := Int.emod_nonneg (cellAt ns 0) (show most ≠ 0 by omega)
    have m2 := Int.emod_lt_of_pos (cellAt ns 0) (show 0 < most by omega)
    have m3 := Int.emod_nonneg (cellAt ns 0 / 8) (show most ≠ 0 by omega)
    have m4 := Int.emod_lt_of_pos (cellAt ns 0 / 8) (show 0 < most by omega)
    obtain ⟨hr, hr1⟩ := rare_ix (cellAt ns 0 / 64)
    generalize cellAt ns 0 = cell at *
    refine s_cons ?_
    walk_at "set"
    intro v2 F2 H2 g2 S2
    refine s_cons ?_
    walk_at "set"
    intro v3 F3 H3 g3 S3
    refine s_cons ?_
    walk_at "set"
    intro v4 F4 H4 g4 S4
    generalize rareC (cell / 64) = rare at *
    generalize hn : 1 + cell % most = n at *
    generalize hmm : 1 + cell / 8 % most = m at *
    have hn1 : 1 ≤ n ∧ n ≤ 8 := by omega
    have hm1 : 1 ≤ m ∧ m ≤ 8 := by omega
    have G4 := ((g1.trans g2).trans g3).trans g4
    have hrp : 0 < rare := by omega
    refine s_cons (t_setO o fs S4 (by walk_at "ix") (x_lst a_nil (Nat.le_of_ble_eq_true rfl)) (fun l us F5 H5 g5 fF fH hl r S5 => ?_) (by decide +kernel))
    have w5 : Ow M.K F4 H4 F5 H5 l ((rowsC (cellAt ns 1) rare m.toNat 0).map tS) := ow_new g5 fF fH hl r
    clear S1 S2 S3 hr
    refine s_cons ?_
    refine t_forR o fs S5 (by walk_at "ix") (r_1 (n := n) o.toOk0 hran (by walk_at "xd") (by omega)) (fun i F' σ' H' => (Ow M.K F4 H4 F' H' l ((rowsC (cellAt ns 1) rare m.toNat i).map tS) ∧ σ'[7]? = some (some (.ref l))) ∧ Stt M.K F' H' σ' [some (scr ns), some (.int 0), some (.int most), some (.int cell), some (.int n), some (.int m), some (.int rare), none, none, none, none, none]) ?_ ?_ ?_
    · intro F' H' g S'
      exact ⟨⟨w5.grow g, List.getElem?_set_self (by rw [← S4.ln]; exact Nat.le_of_ble_eq_true rfl)⟩, S'.less ⟨.inr rfl, .inr rfl, .inr rfl, .inr rfl, .inr rfl, .inr rfl, .inr rfl, .inl rfl, .inl rfl, .inl rfl, .inl rfl, .inl rfl, trivial⟩⟩
    · rintro i F' σ' H' hi e1 e2 ⟨⟨w, hv⟩, S'⟩
      have S6 := S'.set (i := 8) (v := .int (0 + (i : Int))) (d := .int (0 + (i : Int))) (.int _)
      have hv6 : (σ'.set 8 (some (.int (0 + (i : Int)))))[7]? = some (some (.ref l)) := by
        rw [List.getElem?_set_ne (by decide)]
        exact hv
      rw [show (0 : Int) + (i : Int) = (i : Int) by omega] at S6 hv6 ⊢
      refine s_cons (t_set (d := tS (lineC (cellAt ns 1) rare i 0)) o fs S6 (by walk_at "ix") (XD.to x_str (congrArg PyData.str tx_nil.symm)) (fun v7 F7 H7 g7 S7 => ?_) (by decide +kernel))
      have hv7 : ((σ'.set 8 (some (.int (i : Int)))).set 9 (some v7))[7]? = some (some (.ref l)) := by
        rw [List.getElem?_set_ne (by decide)]
        exact hv6
      refine s_cons ?_
      refine t_forR o fs S7 (by walk_at "ix") (r_1 (n := m) o.toOk0 hran (by walk_at "xd") (by omega)) (fun j F8 σ8 H8 => (Ow M.K F4 H4 F8 H8 l ((rowsC (cellAt ns 1) rare m.toNat i).map tS) ∧ σ8[7]? = some (some (.ref l))) ∧ Stt M.K F8 H8 σ8 [some (scr ns), some (.int 0), some (.int most), some (.int cell), some (.int n), some (.int m), some (.int rare), none, some (.int (i : Int)), some (tS (lineC (cellAt ns 1) rare i j)), none, none]) ?_ ?_ ?_
      · intro F8 H8 g8 S8
        exact ⟨⟨(w.grow g7).grow g8, hv7⟩, S8.less ⟨.inr rfl, .inr rfl, .inr rfl, .inr rfl, .inr rfl, .inr rfl, .inr rfl, .inl rfl, .inr rfl, .inr rfl, .inl rfl, .inl rfl, trivial⟩⟩
      · rintro j F8 σ8 H8 hj e3 e4 ⟨⟨w8, hv8⟩, S8⟩
        have S9 := S8.set (i := 10) (v := .int (0 + (j : Int))) (d := .int (0 + (j : Int))) (.int _)
        have hv9 : (σ8.set 10 (some (.int (0 + (j : Int)))))[7]? = some (some (.ref l)) := by
          rw [List.getElem?_set_ne (by decide)]
          exact hv8
        rw [show (0 : Int) + (j : Int) = (j : Int) by omega] at S9 hv9 ⊢
        refine s_cons ?_
        walk_at "set"
        intro v10 F10 H10 g10 S10
        refine s_one (t_set (d := tS (lineC (cellAt ns 1) rare i (j + 1))) o fs S10 (by walk_at "ix") ?e1 (fun v11 F11 H11 g11 S11 => ?_) (by decide +kernel))
        case e1 =>
          refine XD.to (x_adds (x := tx (lineC (cellAt ns 1) rare i j)) (y := tx [Flo.fsign (mix (cellAt ns 1) (10 * (i : Int) + (j : Int)) / 7 % rare == 0)]) (by walk_at "xd") (XD.to (x_ixS (z := ".#") x_str (x_intB o.toOk0 hint ?b (by decide +kernel)) (by decide +kernel) (fsign_at _)) (congrArg PyData.str (tx_one _).symm)) ?z) (by rw [line_snoc, tx_app])
          case b => walk_at "xdt"
          case z =>
            rw [tx_len, tx_len]
            unfold lineC
            rw [List.length_map, List.length_range]
            exact Nat.le_trans (show _ ≤ 100 by show j + 1 ≤ 100; omega) (by decide)
        refine ⟨F11, g10.ex.trans g11.ex, g11.le, ⟨(w8.grow g10).grow g11, ?_⟩, S11.less ⟨.inr rfl, .inr rfl, .inr rfl, .inr rfl, .inr rfl, .inr rfl, .inr rfl, .inl rfl, .inr rfl, .inr rfl, .inl rfl, .inl rfl, trivial⟩⟩
        rw [List.getElem?_set_ne (by decide), List.getElem?_set_ne (by decide)]
        exact hv9
      · rintro F8 σ8 H8 e3 e4 ⟨⟨w8, hv8⟩, S8⟩
        refine s_one (t_append (d := tS (lineC (cellAt ns 1) rare i m.toNat)) o S8 w8 (by walk_at "ix") hv8 ?z2 (by walk_at "xd") (fun us us' F9 H9 g9 hl9 S9 w9 => ?_) (by decide +kernel))
        case z2 =>
          unfold rowsC
          rw [List.length_map, List.length_map, List.length_range]
          omega
        refine ⟨F9, (g7.ex.trans e3).trans g9.ex, S9.le, ⟨?_, hv8⟩, S9.less ⟨.inr rfl, .inr rfl, .inr rfl, .inr rfl, .inr rfl, .inr rfl, .inr rfl, .inl rfl, .inl rfl, .inl rfl, .inl rfl, .inl rfl, trivial⟩⟩
        rw [rows_snoc, List.map_append]
        exact w9
    · rintro F' σ' H' e1 e2 ⟨⟨w, hv⟩, S'⟩
      exact s_one (t_retL (E := E) o.toOk0 w (by walk_at "ix") hv (dn.grow G4) (by decide +kernel))
end
end Roll

namespace Roll
open PySem L2 Lay
def rRefused (ds : List PyData) (r : Out) : Prop := ∃ (ms : List Bool) (w : Int), ds = [.list (ms.map PyData.bool), .int w] ∧ r = .val (.bool (ms == marksOf w))
section
variable {M : Md}
theorem fc_refused {f : Addr} {fd : FuncData} (F : Fun M.K "_law_refused" "_law_refused" s__law_refused f fd) (gm : M.mg "_law_refused" = some (.ref f)) (bd : Binds M.K fd ["marks", "which"] [])
    (hran : M.mg "range" = none) : Fc M CX0 "_law_refused" 1 (spG M.K rRefused) := by
  refine fc_of F gm bd sc__law_refused (fun ds r h => ?_) (by decide) fun X o fs ds r h F0 H σ Q E S dn => ?_
  · obtain ⟨ms, w, rfl, _⟩ := h
    rfl
  · obtain ⟨ms, w, rfl, rfl⟩ := h
    refine s_one (t_done (E := E) S ?_ dn)
    refine' XD.to (x_eq (d1 := .list (ms.map PyData.bool)) (d2 := .list ((marksOf w).map PyData.bool)) o ?a (XD.xh (XO.xd (XO.to (x_addl (XO.xd (o_lcX (lo := 0) (n := 5) o [("k", 2)] 2 (fun _ => true) (fun k => .bool ((k : Int) == w)) ?r (by decide +kernel) (by decide) rfl (by decide +kernel) (.inl rfl) (by decide) ?b (fun _ _ => rfl))) (XO.xd ?l) ?z) ?e))) (pl_bools _) (pl_bools _)) ?f
    case a => walk_at "xh"
    case r => exact r_n o.toOk0 hran x_int (by decide) (by decide +kernel)
    case b =>
      intro i hi F1 H1 g
      have S2 := S.blk (vs := [2]) (j := 2) (v := .int (0 + (i : Int))) (d := .int (0 + (i : Int))) g (.int _)
      refine Blk.no fun Y oY => ?_
      rw [show (0 : Int) + (i : Int) = (i : Int) by omega] at S2 ⊢
      walk_at "xdt"
    case l => walk_at "xo"
    case z => exact Nat.le_of_ble_eq_true rfl
    case e => rfl
    case f =>
      show PyData.bool (PyData.eqvAll _ _) = _
      rw [eqv_bools]
end
end Roll

namespace Roll
open PySem L2 Lay
def rLies (ds : List PyData) (r : Out) : Prop := ds = [] ∧ r = .own (Die.lies24.map tL)
def lrow (a b : Int) : List Die.L3 := ((List.range 6).filter fun i : Nat => Die.isLie (a, b, 1 + (i : Int))).map fun i : Nat => (a, b, 1 + (i : Int))
def lpre (n : Nat) : List Die.L3 := (List.range n).flatMap fun k : Nat => lrow (1 + ((k / 6 : Nat) : Int)) (1 + ((k % 6 : Nat) : Int))
theorem lpre_36 : lpre 36 = Die.lies24 := by decide +kernel
theorem lpre_snoc (n : Nat) : lpre (n + 1) = lpre n ++ lrow (1 + ((n / 6 : Nat) : Int)) (1 + ((n % 6 : Nat) : Int)) := by
  unfold lpre
  rw [List.range_succ, List.flatMap_append]
  simp
theorem lrow_len (a b : Int) : (lrow a b).length ≤ 6 := by
  unfold lrow
  rw [List.length_map]
  exact Nat.le_trans (List.length_filter_le _ _) (by rw [List.length_range]; omega)
theorem lpre_len (n : Nat) : (lpre n).length ≤ 6 * n := by
  induction n with
  | zero => exact Nat.le_refl 0
  | succ n ih =>
    rw [lpre_snoc, List.length_append]
    have := lrow_len (1 + ((n / 6 : Nat) : Int)) (1 + ((n % 6 : Nat) : Int))
    omega
theorem kept_row (a b : Int) : kept (List.range 6) (fun i : Nat => Die.isLie (a, b, 1 + (i : Int))) (fun i : Nat => tl a b (1 + (i : Int))) = (lrow a b).map tL := by
  unfold kept lrow
  rw [List.map_map]
  rfl
theorem lie_ix (c : Int) : ∃ l : Die.L3, Die.isLie l = true ∧ atI (Die.lies24.map tL) (c % 24) = some (tL l) := by
  have h1 : 0 ≤ c % 24 := Int.emod_nonneg _ (by decide)
  have h2 : c % 24 < 24 := Int.emod_lt_of_pos _ (by decide)
  obtain ⟨n, hn⟩ := Int.eq_ofNat_of_zero_le h1
  have hlt : n < Die.lies24.length := by
    show n < 24
    omega
  refine ⟨Die.lies24[n], ?_, ?_⟩
  · rw [← Die.mem_lies, Die.lies_eq]
    exact List.getElem_mem hlt
  · rw [hn]
    exact atI_nat (by rw [List.getElem?_map, List.getElem?_eq_getElem hlt]; rfl)
theorem pl_l24 : Pl (.list (Die.lies24.map tL)) := by
  show SeqAt.shaped _ = true
  decide +kernel
theorem eqv_l24 : PyData.eqv (.list (Die.lies24.map tL)) (.list (Die.lies24.map tL)) = true := by decide +kernel
theorem eqv_bb (b : Bool) : PyData.eqv (.bool b) (.bool b) = true := by cases b <;> rfl
end Roll

namespace Roll
open PySem L2 Lay
section
variable {M : Md}
theorem fc_law_pairs {f : Addr} {fd : FuncData} (F : Fun M.K "_law_pairs" "_law_pairs" s__law_pairs f fd) (gm : M.mg "_law_pairs" = some (.ref f)) (bd : Binds M.K fd ["lie"] []) : Fc M CX0 "_law_pairs" 1 (spG M.K rPairs) := by
  refine fc_of F gm bd sc__law_pairs (fun ds r h => ?_) (by decide) fun X o fs ds r h F0 H σ Q E S dn => ?_
  · obtain ⟨a, b, c, rfl, _⟩ := h
    rfl
  · obtain ⟨a, b, c, rfl, ha, hb, hc, rfl⟩ := h
    have hz : ∀ z ∈ [a, b, c], 1 ≤ z ∧ z ≤ 6 := by
      intro z hz
      simp only [List.mem_cons, List.not_mem_nil, or_false] at hz
      rcases hz with rfl | rfl | rfl <;> assumption
    refine s_one (t_doneO (E := E) S (o_lc o [("number", 1)] 1 PyData.int [a, b, c] (fun _ => true) (fun z => .int (Die.pr z)) S.le (.inr (by walk_at "xd")) (by decide +kernel) (by decide) rfl (by decide +kernel) (.inl rfl) (by show 3 < 100000; decide) (fun z hm v F1 H1 g r => ?_) (fun _ _ => rfl)) dn)
    have hz := hz z hm
    have S' := S.blk (vs := [1]) (j := 1) g r
    have e := pr_at hz
    exact Blk.no fun Y oY => by walk_at "xd"
theorem fc_law_odd {f : Addr} {fd : FuncData} (F : Fun M.K "_law_odd" "_law_odd" s__law_odd f fd) (gm : M.mg "_law_odd" = some (.ref f)) (bd : Binds M.K fd ["row"] [])
    (hlen : M.mg "len" = none) (hran : M.mg "range" = none) : Fc M CX0 "_law_odd" 1 (spG M.K rDis) := by
  refine fc_of F gm bd sc__law_odd (fun ds r h => ?_) (by decide) fun X o fs ds r h F0 H σ Q E S dn => ?_
  · obtain ⟨ns, rfl, _⟩ := h
    rfl
  · obtain ⟨ns, rfl, hl, rfl⟩ := h
    refine s_cons ?_
    walk_at "set"
    intro v1 F1 H1 g1 S1
    refine s_cons ?_
    refine t_forR o fs S1 (by walk_at "ix") (r_1 (n := (ns.length : Int)) o.toOk0 hran ?_ (by omega)) (fun i F' σ' H' => Grow F0 H F' H' ∧ Stt M.K F' H' σ' [some (.list (ns.map PyData.int)), some (.int (Die.disC ns i)), none, none]) ?_ ?_ ?_
    · refine XD.to (d1 := .int (ns.map PyData.int).length) (by walk_at "xd") ?_
      rw [List.length_map]
    · intro F' H' g S'
      exact ⟨g1.trans g, S'.less ⟨.inr rfl, .inr rfl, .inl rfl, .inl rfl, trivial⟩⟩
    · rintro i F' σ' H' hi e1 e2 ⟨g, S'⟩
      have hi' : i < ns.length := by omega
      obtain ⟨z, hz⟩ : ∃ z, ns[i]? = some z := ⟨ns[i], by simp [hi']⟩
      have S2 := S'.set (i := 2) (v := .int (0 + (i : Int))) (d := .int (0 + (i : Int))) (.int _)
      rw [show (0 : Int) + (i : Int) = (i : Int) by omega] at S2 ⊢
      refine s_one ?_
      have hat : atI (ns.map PyData.int) (i : Int) = some (.int z) := atI_nat (by rw [List.getElem?_map, hz]; rfl)
      refine t_set (d := .int (Die.disC ns (i + 1))) o fs S2 (by walk_at "ix") ?_ ?_ (by decide +kernel)
      · refine XD.to (d1 := .int ((Die.disC ns i : Int) + ((kept (ns.take i) (fun n => decide (z < n)) PyData.int).length : Nat))) (x_add (by walk_at "xd") (x_len o.toOk0 hlen (XO.xd (o_lc o [("one", 3)] 3 PyData.int (ns.take i) (fun n => decide (z < n)) PyData.int S2.le (.inl ?_) (by decide +kernel) (by decide) rfl (by decide +kernel) (.inr ⟨_, rfl⟩) ?_ ?_ ?_)).xh (by decide +kernel))) ?_
        · refine XD.to (d1 := .list (cutD (ns.map PyData.int) none (some (i : Int)))) (XO.xd (o_slL o.toOk0 (by walk_at "var") .no (.yes (by walk_at "var")))) ?_
          rw [cut_none i (by rw [List.length_map]; omega), List.map_take]
        · rw [List.length_take]
          omega
        · intro n hm v F2 H2 g2 r
          have S3 := S2.blk (vs := [3]) (j := 3) g2 r
          exact Blk.one (fun Y oY => by walk_at "xb") fun _ Y oY => by walk_at "xd"
        · intro h
          cases h
        · show PyData.int _ = PyData.int _
          rw [show Die.disC ns (i + 1) = Die.disC ns i + Die.gr ns i from rfl, gr_eq ns i hz]
          unfold kept
          rw [List.length_map, Int.natCast_add]
      · intro v F2 H2 g2 S3
        exact ⟨F2, g2.ex, g2.le, g.trans g2, S3.less ⟨.inr rfl, .inr rfl, .inl rfl, .inl rfl, trivial⟩⟩
    · rintro F' σ' H' e1 e2 ⟨g, S'⟩
      refine s_one (t_done (E := E) S' ?_ (dn.grow g))
      refine XD.to (d1 := .int ((Die.disC ns ((ns.length : Int)).toNat : Int) % 2)) (by walk_at "xd") ?_
      unfold Die.dis
      rw [Int.toNat_natCast]
end
local macro_rules | `(tactic| walk_at "rel") => `(tactic| first
  | exact ⟨_, _, _, rfl, by assumption, by assumption, by assumption, rfl⟩
  | exact ⟨[_, _, _], rfl, by show 3 ≤ 1000; decide, rfl⟩
  | exact ⟨_, _, rfl, rfl⟩)
section
variable {M : Md}
theorem fc_law_is_lie {f : Addr} {fd : FuncData} (F : Fun M.K "_law_is_lie" "_law_is_lie" s__law_is_lie f fd) (gm : M.mg "_law_is_lie" = some (.ref f)) (bd : Binds M.K fd ["lie"] [])
    (hlen : M.mg "len" = none) (hsor : M.mg "sorted" = none) (cP : Fc M CX0 "_law_pairs" 1 (spG M.K rPairs)) (cD : Fc M CX0 "_law_odd" 1 (spG M.K rDis)) : Fc M CX0 "_law_is_lie" 2 (spG M.K rIsLie) := by
  refine fc_of F gm bd sc__law_is_lie (fun ds r h => ?_) (by decide) fun X o fs ds r h F0 H σ Q E S dn => ?_
  · obtain ⟨a, b, c, rfl, _⟩ := h
    rfl
  · obtain ⟨a, b, c, rfl, rfl⟩ := h
    refine s_cons ?_
    refine' t_if (c := decide ((0 : Int) < ((kept [a, b, c] (fun z => !Die.inR z) PyData.int).length : Nat)) || !(srt (Die.prs (a, b, c)) == [1, 2, 3])) S (XW.xb (w_or ?c1 fun h => w_or1 ?c2)) ?t ?f
    case c1 =>
      refine b_gt (XD.xh (x_len o.toOk0 hlen (XO.xd (o_lc o [("number", 1)] 1 PyData.int [a, b, c] (fun z => !Die.inR z) PyData.int S.le (.inr (by walk_at "xd")) (by decide +kernel) (by decide) rfl (by decide +kernel) (.inr ⟨_, rfl⟩) (by show 3 < 100000; decide) (fun z hm v F1 H1 g r => ?_) ?_)).xh (by decide +kernel))) x_int.xh
      · have S' := S.blk (vs := [1]) (j := 1) g r
        exact Blk.one (fun Y oY => by walk_at "xb") fun _ Y oY => by walk_at "xd"
      · intro h
        cases h
    case c2 =>
      obtain ⟨ha, hb, hc⟩ := outside_no h
      have ha := Die.inR_of ha
      have hb := Die.inR_of hb
      have hc := Die.inR_of hc
      refine XB.to (b_ne (d1 := .list ((srt (Die.prs (a, b, c))).map PyData.int)) (d2 := .list ([1, 2, 3].map PyData.int)) o (XD.xh (XO.xd (o_sortedI (ns := Die.prs (a, b, c)) o.toOk0 hsor (XO.xd ?_) (srt_perm _) (srt_up _)))) ?_ (pl_ints _) rfl) ?_
      · walk_at "ocall"
      · walk_at "xh"
      · rw [← eqv_ints]
        rfl
    case t =>
      intro h F' H' g S'
      have e : Die.isLie (a, b, c) = false := by
        cases h1 : decide ((0 : Int) < ((kept [a, b, c] (fun z => !Die.inR z) PyData.int).length : Nat)) with
        | true => exact outside_yes h1
        | false =>
          rw [h1, Bool.false_or, srt_iff] at h
          unfold Die.isLie
          have h2 : decide ((Die.prs (a, b, c)).Perm [1, 2, 3]) = false := by simpa using h
          rw [h2, Bool.and_false, Bool.false_and]
      rw [e] at dn
      exact s_one (t_done (E := E) S' (by walk_at "xd") (dn.grow g))
    case f =>
      intro h F' H' g S'
      refine s_nil ?_
      simp only [Bool.or_eq_false_iff] at h
      obtain ⟨h1, h2⟩ := h
      obtain ⟨ia, ib, ic⟩ := outside_no h1
      have ha := Die.inR_of ia
      have hb := Die.inR_of ib
      have hc := Die.inR_of ic
      rw [srt_iff] at h2
      have hp : decide ((Die.prs (a, b, c)).Perm [1, 2, 3]) = true := by simpa using h2
      refine s_cons ?_
      refine t_set o fs S' (d := .int ((kept [a, b, c] (fun n => decide (3 < n)) PyData.int).length : Nat)) (by walk_at "ix") (x_len o.toOk0 hlen (XO.xd (o_lc o [("number", 1)] 1 PyData.int [a, b, c] (fun z => decide (3 < z)) PyData.int S'.le (.inr (by walk_at "xd")) (by decide +kernel) (by decide) rfl (by decide +kernel) (.inr ⟨_, rfl⟩) (by show 3 < 100000; decide) (fun z hm v F1 H1 g r => ?_) ?_)).xh (by decide +kernel)) ?_ (by decide +kernel)
      · have S2 := S'.blk (vs := [1]) (j := 1) g r
        exact Blk.one (fun Y oY => by walk_at "xb") fun _ Y oY => by walk_at "xd"
      · intro h
        cases h
      · intro v F2 H2 g2 S2
        refine s_one (t_done (E := E) S2 ?_ ((dn.grow g).grow g2))
        have e : Die.isLie (a, b, c) = decide ((((kept [a, b, c] (fun n => decide (3 < n)) PyData.int).length : Int) + Die.dis (Die.prs (a, b, c))) % 2 = 0) := by
          unfold Die.isLie
          rw [hp]
          simp only [ia, ib, ic, Bool.true_and, Bool.and_true]
          have hd : Die.dis (Die.prs (a, b, c)) = 0 ∨ Die.dis (Die.prs (a, b, c)) = 1 := by
            unfold Die.dis
            omega
          unfold Die.great kept Die.lst
          rw [List.length_map]
          show decide (((List.filter (fun n => decide (3 < n)) [a, b, c]).length : Int) % 2 = Die.dis (Die.prs (a, b, c))) = _
          generalize ((List.filter (fun n => decide (3 < n)) [a, b, c]).length : Int) = y at hd ⊢
          congr 1
          apply propext
          constructor <;> intro hh <;> omega
        rw [e]
        walk_at "xde"
        rw [eqv_int, Bool.beq_eq_decide_eq]
        rfl
end
end Roll

namespace Roll
open PySem L2 Lay
local macro_rules | `(tactic| walk_at "rel") => `(tactic| first
  | exact ⟨_, _, _, rfl, rfl⟩)
section
variable {M : Md} {C : Addr}
theorem fc_law_lies {f : Addr} {fd : FuncData} (F : Fun M.K "_law_lies" "_law_lies" s__law_lies f fd) (gm : M.mg "_law_lies" = some (.ref f)) (bd : Binds M.K fd [] [])
    (hran : M.mg "range" = none) (cI : Fc M CX0 "_law_is_lie" 2 (spG M.K rIsLie)) : Fc M CX0 "_law_lies" 3 (spG M.K rLies) := by
  refine fc_of F gm bd sc__law_lies (fun ds r h => ?_) (by decide) fun X o fs ds r h F0 H σ Q E S dn => ?_
  · obtain ⟨rfl, _⟩ := h
    rfl
  · obtain ⟨rfl, rfl⟩ := h
    refine s_cons (t_setO o fs S (by walk_at "ix") (x_lst a_nil (Nat.le_of_ble_eq_true rfl)) (fun l us F1 H1 g1 fF fH hl r S1 => ?_) (by decide +kernel))
    have hv1 : (σ.set 0 (some (.ref l)))[0]? = some (some (.ref l)) := List.getElem?_set_self (by rw [← S.ln]; exact Nat.le_of_ble_eq_true rfl)
    have w1 : Ow M.K F0 H F1 H1 l ((lpre 0).map tL) := ow_new g1 fF fH hl r
    refine s_cons ?_
    refine t_forR o fs S1 (by walk_at "ix") (r_2 (lo := 1) (n := 7) o.toOk0 hran x_int x_int (by decide)) (fun i F' σ' H' => Ow M.K F0 H F' H' l ((lpre (6 * i)).map tL) ∧ Stt M.K F' H' σ' [none, none, none, none] ∧ σ'[0]? = some (some (.ref l))) ?_ ?_ ?_
    · intro F' H' g S'
      exact ⟨w1.grow g, S'.less ⟨.inl rfl, .inl rfl, .inl rfl, .inl rfl, trivial⟩, hv1⟩
    · rintro i F' σ' H' hi e1 e2 ⟨w, S', hv⟩
      have hi' : i < 6 := hi
      have S2 := S'.set (i := 1) (v := .int (1 + (i : Int))) (d := .int (1 + (i : Int))) (.int _)
      have hv2 : (σ'.set 1 (some (.int (1 + (i : Int)))))[0]? = some (some (.ref l)) := by
        rw [List.getElem?_set_ne (by decide)]
        exact hv
      refine s_one ?_
      refine t_forR o fs S2 (by walk_at "ix") (r_2 (lo := 1) (n := 7) o.toOk0 hran x_int x_int (by decide)) (fun j F2 σ2 H2 => Ow M.K F0 H F2 H2 l ((lpre (6 * i + j)).map tL) ∧ Stt M.K F2 H2 σ2 [none, some (.int (1 + (i : Int))), none, none] ∧ σ2[0]? = some (some (.ref l))) ?_ ?_ ?_
      · intro F2 H2 g S3
        exact ⟨w.grow g, S3.less ⟨.inl rfl, .inr rfl, .inl rfl, .inl rfl, trivial⟩, hv2⟩
      · rintro j F2 σ2 H2 hj e3 e4 ⟨w2, S3, hv3⟩
        have hj' : j < 6 := hj
        have S4 := S3.set (i := 2) (v := .int (1 + (j : Int))) (d := .int (1 + (j : Int))) (.int _)
        have hv4 : (σ2.set 2 (some (.int (1 + (j : Int)))))[0]? = some (some (.ref l)) := by
          rw [List.getElem?_set_ne (by decide)]
          exact hv3
        have hlen := lpre_len (6 * i + j)
        refine s_one ?_
        refine t_extend (ds2 := (lrow (1 + (i : Int)) (1 + (j : Int))).map tL) o S4 w2 (by walk_at "ix") hv4 ?_ (XO.to (o_lcX (lo := 1) (n := 6) o [("east", 3)] 3 (fun z => Die.isLie (1 + (i : Int), 1 + (j : Int), 1 + (z : Int))) (fun z => tl (1 + (i : Int)) (1 + (j : Int)) (1 + (z : Int))) ?r (by decide +kernel) (by decide) rfl (by decide +kernel) (.inr ⟨_, rfl⟩) (by decide) ?b ?c) (kept_row _ _)) ?k (by decide +kernel)
        · rw [List.length_map, List.length_map]
          have := lrow_len (1 + (i : Int)) (1 + (j : Int))
          omega
        case r => exact r_2 (lo := 1) (n := 7) o.toOk0 hran x_int x_int (by decide)
        case b =>
          intro z hz F3 H3 g
          have S5 := S4.blk (vs := [3]) (j := 3) (v := .int (1 + (z : Int))) (d := .int (1 + (z : Int))) g (.int _)
          exact Blk.one (fun Y oY => by walk_at "xb") fun _ Y oY => by walk_at "xd"
        case c =>
          intro h
          cases h
        case k =>
          intro us us' F3 H3 g hl3 S5 w3
          refine ⟨F3, g.ex, w3.le, ?_, S5.less ⟨.inl rfl, .inr rfl, .inl rfl, .inl rfl, trivial⟩, hv4⟩
          rw [show 6 * i + (j + 1) = (6 * i + j) + 1 by omega, lpre_snoc, List.map_append, show (6 * i + j) / 6 = i by omega, show (6 * i + j) % 6 = j by omega]
          exact w3
      · rintro F2 σ2 H2 e3 e4 ⟨w2, S3, hv3⟩
        exact ⟨F2, e3, e4, w2, S3.less ⟨.inl rfl, .inl rfl, .inl rfl, .inl rfl, trivial⟩, hv3⟩
    · rintro F' σ' H' e1 e2 ⟨w, S', hv⟩
      have w : Ow M.K F0 H F' H' l ((lpre 36).map tL) := w
      rw [lpre_36] at w
      exact s_one (t_retL (E := E) o.toOk0 w (by walk_at "ix") hv dn (by decide +kernel))
end
end Roll

namespace Roll
open PySem L2 Lay
/-! a right lie by a number -/
def lieAt (z : Int) : Die.L3 := Die.lies24.getD (z % 24).toNat Die.first
theorem lieAt_ix (z : Int) : atI (Die.lies24.map tL) (z % 24) = some (tL (lieAt z)) ∧ Die.isLie (lieAt z) = true := by
  have h1 : 0 ≤ z % 24 := Int.emod_nonneg _ (by decide)
  have h2 : z % 24 < 24 := Int.emod_lt_of_pos _ (by decide)
  obtain ⟨n, hn⟩ := Int.eq_ofNat_of_zero_le h1
  have hlt : n < Die.lies24.length := by
    show n < 24
    omega
  have e : lieAt z = Die.lies24[n] := by
    unfold lieAt
    rw [hn, Int.toNat_natCast, List.getD_eq_getElem?_getD, List.getElem?_eq_getElem hlt]
    rfl
  rw [e]
  refine ⟨?_, ?_⟩
  · rw [hn]
    exact atI_nat (by rw [List.getElem?_map, List.getElem?_eq_getElem hlt]; rfl)
  · rw [← Die.mem_lies, Die.lies_eq]
    exact List.getElem_mem hlt
end Roll

namespace Roll
open PySem L2 Lay
/-! _law_due, _law_stand of law_k12 -/
def dueP (w : Nat) (good : Bool) (cs : List Sta.P2) (s t : Sta.Sd) : Int :=
  if good = false then 0 else if s.1 ∉ cs then 1 else if (Die.isLie s.2 = false ∧ w ≠ 5) then 2 else if ((w = 1 ∨ w = 2) ∧ t.1 ∉ cs) then 1 else if (w = 1 ∧ Die.isLie t.2 = false) then 2 else -1
def rDue12 (ds : List PyData) (r : Out) : Prop := ∃ (w : Nat) (good : Bool) (cs : List Sta.P2) (s t : Sta.Sd), w ≤ 5 ∧ ds = [.int (w : Int), .bool good, .list (cs.map tP), tSd s, tSd t] ∧ r = .val (.int (dueP w good cs s t))
def mayLie (z : Int) : Die.L3 := if (z / 6048 % 5 == 1) = true then ((lieAt (z / 252)).2.1, (lieAt (z / 252)).1, (lieAt (z / 252)).2.2) else lieAt (z / 252)
def mayPl (cs : List Sta.P2) (z : Int) : Sta.P2 := if (!cs.isEmpty && decide (1 < z % 7)) = true then cs.getD (z / 7 % (cs.length : Nat)).toNat (0, 0) else (z / 7 % 6 - 1, z / 42 % 6 - 1)
def rStand12 (ds : List PyData) (r : Out) : Prop := ∃ (d : PyData) (cs : List Sta.P2) (z : Int), cs.length ≤ 100 ∧ ds = [d, .list (cs.map tP), .int z] ∧ r = .val (tSd (mayPl cs z, mayLie z))
local macro_rules | `(tactic| walk_at "rel") => `(tactic| first
  | exact ⟨_, _, _, rfl, rfl⟩
  | exact ⟨_, 0, rfl, rfl⟩)
section
variable {M : Md}
theorem inT12 {X : Cx} {N : List Str} {sc : Scope} {k : Nat} {σ : L2.St} {F H : Hp} {a b : Expr} {pos : Pos} (o : Ok M X N sc k) {w : Nat} (ha : XD M X a σ F H (.int (w : Int))) (hb : XD M X b σ F H (.tuple [.int 1, .int 2])) (hm : behindInMarks .In b = false := by rfl) : XB M X (.Compare a [.In] [b] pos) σ F H (decide (w = 1) || decide (w = 2)) := by
  refine b_cmp op_in_seq hm ha.xh hb.xh fun x y F1 H1 g rx ry Q q => ?_
  cases rx
  cases ry with
  | tup h s =>
    cases s with
    | cons h1 s =>
      cases s with
      | cons h2 s =>
        cases s
        cases h1
        cases h2
        refine ⟨_, _, rfl, .inr (by rw [o.eK]; exact h), rfl, rfl, ?_⟩
        have e : inV (.int (w : Int)) [.int 1, .int 2] = (decide (w = 1) || decide (w = 2)) := by
          show ((1 == (w : Int)) || ((2 == (w : Int)) || false)) = _
          rw [Bool.or_false, Bool.eq_iff_iff, Bool.or_eq_true, Bool.or_eq_true, beq_iff_eq, beq_iff_eq, decide_eq_true_eq, decide_eq_true_eq]
          omega
        show Q (.bl (inV (.int (w : Int)) [.int 1, .int 2])) H1
        rw [e]
        exact q F1 H1 (Grow.refl g.le)
theorem fc_due12 {f : Addr} {fd : FuncData} (F : Fun M.K "_law_due" "_law_due" s__law_due f fd) (gm : M.mg "_law_due" = some (.ref f)) (bd : Binds M.K fd ["which", "good", "cells", "one", "other"] [])
    (cJ : Fc M CX0 "_law_is_lie" 2 (spG M.K rIsLie)) : Fc M CX0 "_law_due" 3 (spG M.K rDue12) := by
  refine fc_of F gm bd sc__law_due (fun ds r h => ?_) (by decide) fun X o fs ds r h F0 H σ Q E S dn => ?_
  · obtain ⟨w, good, cs, s, t, _, rfl, _⟩ := h
    rfl
  · obtain ⟨w, good, cs, s, t, hw, rfl, rfl⟩ := h
    unfold dueP at dn
    refine s_cons ?_
    refine' t_if (c := !good) S (b_not (b_val (by walk_at "xd"))) ?t1 ?f1
    case t1 =>
      intro hc F1 H1 g1 S1
      rw [Bool.not_eq_true'] at hc
      rw [if_pos hc] at dn
      exact s_one (t_done (E := E) S1 x_int (dn.grow g1))
    case f1 =>
      intro hc F1 H1 g1 S1
      rw [Bool.not_eq_false'] at hc
      rw [if_neg (by rw [hc]; exact fun z => Bool.noConfusion z)] at dn
      refine s_nil (s_cons ?_)
      refine' t_if (c := !decide (s.1 ∈ cs)) S1 (XB.to (b_ninL (d := tP s.1) (ds := cs.map tP) o (XD.xh (x_ixT (ds := [tP s.1, tL s.2]) o.toOk0 ?a1 x_int rfl)) ?a2 rfl (pl_tPs _)) (by rw [any_tP])) ?t2 ?f2
      case a1 => walk_at "xd"
      case a2 => walk_at "xh"
      case t2 =>
        intro hc F2 H2 g2 S2
        rw [Bool.not_eq_true', decide_eq_false_iff_not] at hc
        rw [if_pos hc] at dn
        exact s_one (t_done (E := E) S2 x_int ((dn.grow g1).grow g2))
      case f2 =>
        intro hc F2 H2 g2 S2
        rw [Bool.not_eq_false', decide_eq_true_eq] at hc
        rw [if_neg (fun z => z hc)] at dn
        refine s_nil (s_cons ?_)
        have ne5 : (!PyData.eqv (.int (w : Int)) (.int 5)) = !decide (w = 5) := by
          rw [eqv_int]
          congr 1
          rw [Bool.eq_iff_iff, beq_iff_eq, decide_eq_true_eq]
          omega
        refine' t_if (c := !Die.isLie s.2 && !decide (w = 5)) S2 (XW.xb (w_and (b_not (b_val (x_call o cJ pz0 (a_cons (x_ixT (ds := [tP s.1, tL s.2]) o.toOk0 ?a3 x_int rfl) a_nil) ⟨s.2.1, s.2.2.1, s.2.2.2, rfl, rfl⟩ (by decide) (by decide +kernel)))) fun _ => w_and1 (XB.to (b_ne (d1 := .int (w : Int)) (d2 := .int 5) o ?a4 x_int.xh rfl rfl) ne5))) ?t3 ?f3
        case a3 => walk_at "xd"
        case a4 => walk_at "xh"
        case t3 =>
          intro hc F3 H3 g3 S3
          rw [Bool.and_eq_true, Bool.not_eq_true', Bool.not_eq_true', decide_eq_false_iff_not] at hc
          rw [if_pos hc] at dn
          exact s_one (t_done (E := E) S3 x_int (((dn.grow g1).grow g2).grow g3))
        case f3 =>
          intro hc F3 H3 g3 S3
          rw [if_neg (fun z => by
            rw [z.1, decide_eq_false z.2] at hc
            cases hc)] at dn
          refine s_nil (s_cons ?_)
          refine' t_if (c := (decide (w = 1) || decide (w = 2)) && !decide (t.1 ∈ cs)) S3 (XW.xb (w_and (inT12 o ?a5 ?a6) fun _ => w_and1 (XB.to (b_ninL (d := tP t.1) (ds := cs.map tP) o (XD.xh (x_ixT (ds := [tP t.1, tL t.2]) o.toOk0 ?a7 x_int rfl)) ?a8 rfl (pl_tPs _)) (by rw [any_tP])))) ?t4 ?f4
          case a5 => walk_at "xd"
          case a6 => walk_at "xd"
          case a7 => walk_at "xd"
          case a8 => walk_at "xh"
          case t4 =>
            intro hc F4 H4 g4 S4
            rw [Bool.and_eq_true, Bool.or_eq_true, Bool.not_eq_true', decide_eq_true_eq, decide_eq_true_eq, decide_eq_false_iff_not] at hc
            rw [if_pos hc] at dn
            exact s_one (t_done (E := E) S4 x_int ((((dn.grow g1).grow g2).grow g3).grow g4))
          case f4 =>
            intro hc F4 H4 g4 S4
            rw [if_neg (fun z => by
              have e : (decide (w = 1) || decide (w = 2)) = true := by
                rw [Bool.or_eq_true, decide_eq_true_eq, decide_eq_true_eq]
                exact z.1
              rw [e, decide_eq_false z.2] at hc
              cases hc)] at dn
            refine s_nil (s_cons ?_)
            have eq1 : PyData.eqv (.int (w : Int)) (.int 1) = decide (w = 1) := by
              rw [eqv_int, Bool.eq_iff_iff, beq_iff_eq, decide_eq_true_eq]
              omega
            refine' t_if (c := decide (w = 1) && !Die.isLie t.2) S4 (XW.xb (w_and (XB.to (b_eq (d1 := .int (w : Int)) (d2 := .int 1) o ?a9 x_int.xh rfl rfl) eq1) fun _ => w_and1 (b_not (b_val (x_call o cJ pz0 (a_cons (x_ixT (ds := [tP t.1, tL t.2]) o.toOk0 ?a10 x_int rfl) a_nil) ⟨t.2.1, t.2.2.1, t.2.2.2, rfl, rfl⟩ (by decide) (by decide +kernel)))))) ?t5 ?f5
            case a9 => walk_at "xh"
            case a10 => walk_at "xd"
            case t5 =>
              intro hc F5 H5 g5 S5
              rw [Bool.and_eq_true, Bool.not_eq_true', decide_eq_true_eq] at hc
              rw [if_pos hc] at dn
              exact s_one (t_done (E := E) S5 x_int (((((dn.grow g1).grow g2).grow g3).grow g4).grow g5))
            case f5 =>
              intro hc F5 H5 g5 S5
              rw [if_neg (fun z => by
                rw [decide_eq_true z.1, z.2] at hc
                cases hc)] at dn
              exact s_nil (s_one (t_done (E := E) S5 (x_neg x_int) (((((dn.grow g1).grow g2).grow g3).grow g4).grow g5)))
theorem fc_stand12 {f : Addr} {fd : FuncData} (F : Fun M.K "_law_stand" "_law_stand" s__law_stand f fd) (gm : M.mg "_law_stand" = some (.ref f)) (bd : Binds M.K fd ["floor", "cells", "cell"] [])
    (hlen : M.mg "len" = none) (cQ : Fc M CX0 "_law_lies" 3 (spG M.K rLies)) : Fc M CX0 "_law_stand" 4 (spG M.K rStand12) := by
  refine fc_of F gm bd sc__law_stand (fun ds r h => ?_) (by decide) fun X o fs ds r h F0 H σ Q E S dn => ?_
  · obtain ⟨d, cs, z, _, rfl, _⟩ := h
    rfl
  · obtain ⟨d, cs, z, hcs, rfl, rfl⟩ := h
    refine s_cons (t_set (d := tP (z / 7 % 6 - 1, z / 42 % 6 - 1)) o fs S (by walk_at "ix") (by walk_at "xd") (fun v1 F1 H1 g1 S1 => ?_) (by decide +kernel))
    unfold mayPl mayLie at dn
    let Mid : L2.St → Hp → Prop := fun σ' H' => ∃ F' : Hp, Grow F0 H F' H' ∧ Stt M.K F' H' σ' [some d, some (.list (cs.map tP)), some (.int z), some (tP (if (!cs.isEmpty && decide (1 < z % 7)) = true then cs.getD (z / 7 % (cs.length : Nat)).toNat (0, 0) else (z / 7 % 6 - 1, z / 42 % 6 - 1))), none]
    refine s_cut Mid ?c1 ?c2
    case c1 =>
      refine' t_if (c := !cs.isEmpty && decide (1 < z % 7)) S1 (XW.xb (w_and (XB.to (b_ne (d1 := .list (cs.map tP)) (d2 := .list []) o ?a1 ?a2 (pl_tPs cs) rfl) ?a3) fun _ => w_and1 (b_gt ?a4 ?a5))) ?t ?f
      case a1 => walk_at "xh"
      case a2 => walk_at "xh"
      case a3 =>
        rw [eqv_empty]
        cases cs <;> rfl
      case a4 => walk_at "xh"
      case a5 => walk_at "xh"
      case t =>
        intro hc F3 H3 g3 S3
        have he : cs.isEmpty = false := by
          rw [Bool.and_eq_true, Bool.not_eq_true'] at hc
          exact hc.1
        obtain ⟨h1, h2, _⟩ := cell_ix he (z / 7)
        refine s_one (t_set (d := tP (cs.getD (z / 7 % (cs.length : Nat)).toNat (0, 0))) o fs S3 (by walk_at "ix") (x_ixL (ds := cs.map tP) o.toOk0 ?b1 (x_mod ?b2 (x_len o.toOk0 hlen ?b3 (by decide +kernel)) h2) h1) (fun v4 F4 H4 g4 S4 => ?_) (by decide +kernel))
        case b1 => walk_at "xd"
        case b2 => walk_at "xd"
        case b3 => walk_at "xh"
        refine ⟨F4, (g1.trans g3).trans g4, ?_⟩
        rw [if_pos hc]
        exact S4
      case f =>
        intro hc F3 H3 g3 S3
        refine s_nil ⟨F3, g1.trans g3, ?_⟩
        rw [if_neg (by rw [hc]; exact Bool.false_ne_true)]
        exact S3
    case c2 =>
      rintro σ3 H3 ⟨F3, G3, S3⟩
      generalize (if (!cs.isEmpty && decide (1 < z % 7)) = true then cs.getD (z / 7 % (cs.length : Nat)).toNat (0, 0) else (z / 7 % 6 - 1, z / 42 % 6 - 1)) = p at *
      refine s_cons (t_set (d := tL (lieAt (z / 252))) o fs S3 (by walk_at "ix") (x_ixL o.toOk0 (XO.xd (o_call0 o cQ pz0 ⟨rfl, rfl⟩ (by decide) (by decide +kernel))) (by walk_at "xd") (lieAt_ix _).1) (fun v4 F4 H4 g4 S4 => ?_) (by decide +kernel))
      have G4 := G3.trans g4
      let Mid2 : L2.St → Hp → Prop := fun σ' H' => ∃ F' : Hp, Grow F0 H F' H' ∧ Stt M.K F' H' σ' [some d, some (.list (cs.map tP)), some (.int z), some (tP p), some (tL (if (z / 6048 % 5 == 1) = true then ((lieAt (z / 252)).2.1, (lieAt (z / 252)).1, (lieAt (z / 252)).2.2) else lieAt (z / 252)))]
      refine s_cut Mid2 ?d1 ?d2
      case d1 =>
        refine' t_if (c := z / 6048 % 5 == 1) S4 (b_eq (d1 := .int (z / 6048 % 5)) (d2 := .int 1) o ?e1 x_int.xh rfl rfl) ?t2 ?f2
        case e1 => walk_at "xh"
        case t2 =>
          intro hc F5 H5 g5 S5
          refine s_one ?_
          walk_at "set"
          intro v6 F6 H6 g6 S6
          refine ⟨F6, (G4.trans g5).trans g6, ?_⟩
          rw [if_pos hc]
          exact S6
        case f2 =>
          intro hc F5 H5 g5 S5
          refine s_nil ⟨F5, G4.trans g5, ?_⟩
          rw [if_neg (by rw [hc]; exact Bool.false_ne_true)]
          exact S5
      case d2 =>
        rintro σ5 H5 ⟨F5, G5, S5⟩
        exact s_one (t_done (E := E) S5 (by walk_at "xd") (dn.grow G5))
end
end Roll

namespace Roll
open PySem L2 Lay
theorem eight (cs : List Nat) (h : ¬ (1 ≤ cs.length ∧ cs.length ≤ 8)) (n : Nat) : Flo.okRow n cs = false := by
  cases e : Flo.okRow n cs with
  | false => rfl
  | true =>
    have := Flo.okRow_len e
    exact absurd ⟨this.2.1, this.2.2.1⟩ h
theorem fl_snoc (f : Flo.Rows) (r : List Nat) : f.map tS ++ [tS r] = (f ++ [r]).map tS := by
  rw [List.map_append]
  rfl
theorem nine_dots : PyData.str "........." = tS [46, 46, 46, 46, 46, 46, 46, 46, 46] := by
  rw [← tx_codes "........."]
  exact congrArg (fun c => PyData.str (tx c)) (by decide +kernel)
theorem one_x : PyData.str "x" = tS [120] := by
  rw [← tx_codes "x"]
  exact congrArg (fun c => PyData.str (tx c)) (by decide +kernel)
/-- a floor that is none, by a number -/
theorem bad_floor (f : Flo.Rows) (hf : shortF f) (hl : f.length ≤ 900) (z : Int) : ∃ g : Flo.Rows, shortF g ∧ Flo.okF g = false ∧ atI [.list [], .list (f.map tS ++ [.str "........."]), .list (f.map tS ++ [.str ""]), .list [.str "x"]] (z % 4) = some (fl g) := by
  have h := mod4 z
  generalize z % 4 = m at h
  have : m = 0 ∨ m = 1 ∨ m = 2 ∨ m = 3 := by omega
  rcases this with rfl | rfl | rfl | rfl
  · exact ⟨[], ⟨by decide, fun r hr => by cases hr⟩, rfl, rfl⟩
  · refine ⟨f ++ [[46, 46, 46, 46, 46, 46, 46, 46, 46]], ⟨?_, ?_⟩, ?_, ?_⟩
    · rw [List.length_append, List.length_singleton]; omega
    · intro r hr
      rcases List.mem_append.mp hr with hr | hr
      · exact hf.2 r hr
      · rw [List.mem_singleton] at hr
        subst hr
        decide
    · exact okF_no (List.mem_append_right _ (List.mem_singleton.mpr rfl)) (eight _ (by decide) _)
    · show some (PyData.list (f.map tS ++ [.str "........."])) = _
      rw [nine_dots, fl_snoc]
  · refine ⟨f ++ [[]], ⟨?_, ?_⟩, ?_, ?_⟩
    · rw [List.length_append, List.length_singleton]; omega
    · intro r hr
      rcases List.mem_append.mp hr with hr | hr
      · exact hf.2 r hr
      · rw [List.mem_singleton] at hr
        subst hr
        decide
    · exact okF_no (List.mem_append_right _ (List.mem_singleton.mpr rfl)) (eight _ (by decide) _)
    · show some (PyData.list (f.map tS ++ [.str ""])) = _
      rw [← tx_nil, fl_snoc]
  · refine ⟨[[120]], ⟨by decide, fun r hr => ?_⟩, by decide +kernel, ?_⟩
    · rw [List.mem_singleton] at hr
      subst hr
      decide
    · show some (PyData.list [.str "x"]) = _
      rw [one_x]
      rfl
/-- the law's own reckoning and the program's -/
theorem rel12 {f g : Flo.Rows} {b : Bool} (hf : Flo.okF f = true) (hb : (b = true ∧ g = f) ∨ (b = false ∧ Flo.okF g = false)) {w : Nat} (hw : w ≤ 5) (s t : Sta.Sd) :
    (0 ≤ dueP w b (Sta.cells f) s t ∧ due12 w g s t = dueP w b (Sta.cells f) s t) ∨ (dueP w b (Sta.cells f) s t = -1 ∧ (due12 w g s t = -1 ∨ (w = 1 ∧ due12 w g s t = 4))) := by
  rcases hb with ⟨rfl, rfl⟩ | ⟨rfl, hg⟩
  · unfold dueP due12 comeN
    rw [if_neg (show ¬ (true = false) from fun z => Bool.noConfusion z)]
    simp only [if_pos hf]
    have m1 : s.1 ∈ Sta.cells g ↔ Sta.isCell g s.1 = true := Sta.mem_cells
    have m2 : t.1 ∈ Sta.cells g ↔ Sta.isCell g t.1 = true := Sta.mem_cells
    by_cases h1 : Sta.isCell g s.1 = true
    · rw [if_neg (fun z => z (m1.mpr h1))]
      simp only [if_pos h1]
      by_cases h2 : Die.isLie s.2 = true
      · rw [if_neg (fun z => by rw [h2] at z; cases z.1)]
        simp only [if_pos h2]
        by_cases w1 : w = 1
        · subst w1
          simp only [if_true]
          by_cases h3 : Sta.isCell g t.1 = true
          · rw [if_neg (fun z => z.2 (m2.mpr h3))]
            simp only [if_pos h3]
            by_cases h4 : Die.isLie t.2 = true
            · rw [if_neg (fun z => by rw [h4] at z; cases z.2)]
              simp only [if_pos h4]
              refine .inr ⟨(by first | rfl | trivial | decide), ?_⟩
              split
              · exact .inl (by first | rfl | trivial | decide)
              · exact .inr ⟨(by first | rfl | trivial | decide), (by first | rfl | trivial | decide)⟩
            · rw [if_pos ⟨(by first | rfl | trivial | decide), by simpa using h4⟩]
              simp only [if_neg h4]
              exact .inl ⟨by decide, (by first | rfl | trivial | decide)⟩
          · rw [if_pos ⟨.inl (by first | rfl | trivial | decide), fun z => h3 (m2.mp z)⟩]
            simp only [if_neg h3]
            exact .inl ⟨by decide, (by first | rfl | trivial | decide)⟩
        · simp only [if_neg w1]
          by_cases w2 : w = 2
          · subst w2
            simp only [if_true]
            by_cases h3 : Sta.isCell g t.1 = true
            · rw [if_neg (fun z => z.2 (m2.mpr h3)), if_neg (fun z => by cases z.1)]
              simp only [if_pos h3]
              exact .inr ⟨(by first | rfl | trivial | decide), .inl (by first | rfl | trivial | decide)⟩
            · rw [if_pos ⟨.inr (by first | rfl | trivial | decide), fun z => h3 (m2.mp z)⟩]
              simp only [if_neg h3]
              exact .inl ⟨by decide, (by first | rfl | trivial | decide)⟩
          · simp only [if_neg w2]
            rw [if_neg (fun z => by rcases z.1 with z | z; exact w1 z; exact w2 z), if_neg (fun z => w1 z.1)]
            refine .inr ⟨(by first | rfl | trivial | decide), .inl ?_⟩
            split <;> first | rfl | trivial
      · by_cases w5 : w = 5
        · subst w5
          rw [if_neg (fun z => z.2 (by first | rfl | trivial | decide)), if_neg (fun z => by rcases z.1 with z | z <;> cases z), if_neg (fun z => by cases z.1)]
          simp only [if_neg (show ¬ (5 = 1) by decide), if_neg (show ¬ (5 = 2) by decide), if_true]
          exact .inr ⟨(by first | rfl | trivial | decide), .inl (by first | rfl | trivial | decide)⟩
        · rw [if_pos ⟨by simpa using h2, w5⟩]
          simp only [if_neg h2, if_neg w5]
          refine .inl ⟨by decide, ?_⟩
          split
          · first | rfl | trivial
          · split <;> first | rfl | trivial
    · rw [if_pos (fun z => h1 (m1.mp z))]
      simp only [if_neg h1]
      refine .inl ⟨by decide, ?_⟩
      split
      · first | rfl | trivial
      · split
        · first | rfl | trivial
        · split <;> first | rfl | trivial
  · have hg' : ¬ Flo.okF g = true := by rw [hg]; exact Bool.false_ne_true
    unfold dueP due12 comeN
    rw [if_pos rfl]
    simp only [if_neg hg']
    refine .inl ⟨by decide, ?_⟩
    split
    · first | rfl | trivial
    · split
      · first | rfl | trivial
      · split <;> first | rfl | trivial
local macro_rules | `(tactic| walk_at "rel") => `(tactic| first
  | exact ⟨_, 0, rfl, rfl⟩ | exact ⟨_, 2, rfl, rfl⟩ | exact ⟨_, 3, rfl, rfl⟩ | exact ⟨_, 4, rfl, rfl⟩
  | exact ⟨_, _, by decide, rfl, rfl⟩
  | exact ⟨_, by assumption, rfl, rfl⟩
  | exact ⟨_, _, _, by assumption, rfl, rfl⟩
  | exact ⟨_, _, rfl, rfl⟩)
section
variable {M : Md}
theorem ok_law {f : Addr} {fd : FuncData} (F : Fun M.K "law" "law" s_law f fd) (hran : M.mg "range" = none)
    (cC : Fc M CX0 "_law_cell_at" 1 (spG M.K rCell)) (cF : Fc M CX0 "_law_refused" 1 (spG M.K rRefused)) (cFl : Fc M CX0 "_law_floor" 2 (spG M.K rFloor)) (cCe : Fc M CX0 "_law_cells" 1 (spG M.K rCells))
    (cSt : Fc M CX0 "_law_stand" 4 (spG M.K rStand12)) (cDu : Fc M CX0 "_law_due" 3 (spG M.K rDue12)) (cMe : Fc M CX0 "_law_met" 8 (spG M.K rMet)) : FnOk M.P M.w M.K M.mg M.base CX0 9 f fd ["script"] (spG M.K rLaw) := by
  refine ok_of F sc_law (fun ds r h => ?_) (by decide) fun X o fs ds r h F0 H σ Q E S dn => ?_
  · obtain ⟨ns, _, rfl, _⟩ := h
    rfl
  · obtain ⟨ns, _, rfl, rfl⟩ := h
    have hf : Flo.okF (floorC ns 4) = true := floorC_ok ns (by decide)
    refine s_cons ?_
    walk_at "set"
    intro v1 F1 H1 g1 S1
    generalize floorC ns 4 = f at hf S1
    refine s_cons ?_
    walk_at "set"
    intro v2 F2 H2 g2 S2
    have hcl : (Sta.cells f).length ≤ 100 := Nat.le_trans (cells_len hf) (by decide)
    refine s_cons ?_
    walk_at "set"
    intro v3 F3 H3 g3 S3
    generalize (mayPl (Sta.cells f) (cellAt ns 2), mayLie (cellAt ns 2)) = s at S3
    refine s_cons ?_
    walk_at "set"
    intro v4 F4 H4 g4 S4
    generalize (mayPl (Sta.cells f) (cellAt ns 3), mayLie (cellAt ns 3)) = t at S4
    refine s_cons (t_set (d := .bool true) o fs S4 (by walk_at "ix") x_bl (fun v5 F5 H5 g5 S5 => ?_) (by decide +kernel))
    have G5 := (((g1.trans g2).trans g3).trans g4).trans g5
    let Mid : L2.St → Hp → Prop := fun σ' H' => ∃ (F' : Hp) (g : Flo.Rows) (b : Bool), (shortF g ∧ ((b = true ∧ g = f) ∨ (b = false ∧ Flo.okF g = false))) ∧ Grow F0 H F' H' ∧ Stt M.K F' H' σ' [some (scr ns), some (fl g), some (.list ((Sta.cells f).map tP)), some (tSd s), some (tSd t), some (.bool b), none, none, none]
    refine s_cut Mid ?a1 ?a2
    case a1 =>
      refine' t_if (c := cellAt ns 4 % 4 == 1) S5 (b_eq (d1 := .int (cellAt ns 4 % 4)) (d2 := .int 1) o ?b1 x_int.xh rfl rfl) ?t1 ?f1
      case b1 => walk_at "xh"
      case f1 =>
        intro _ F6 H6 g6 S6
        exact s_nil ⟨F6, f, true, ⟨okF_short hf, .inl ⟨rfl, rfl⟩⟩, G5.trans g6, S6⟩
      case t1 =>
        intro _ F6 H6 g6 S6
        refine s_cons (t_set (d := .bool false) o fs S6 (by walk_at "ix") x_bl (fun v7 F7 H7 g7 S7 => ?_) (by decide +kernel))
        have hfl := (Flo.okF_of hf).2.1
        obtain ⟨g, e1, e2, e3⟩ := bad_floor f (okF_short hf) (by omega) (cellAt ns 4 / 4)
        refine s_one (t_set (d := fl g) o fs S7 (by walk_at "ix") (x_ixL o.toOk0 (XO.xd (x_lst (a_cons (d := .list []) (XO.xd (x_lst a_nil (Nat.le_of_ble_eq_true rfl))) (a_cons (XO.xd (x_addl (ds1 := f.map tS) ?c1 (XO.xd (x_lst (a_cons x_str a_nil) (Nat.le_of_ble_eq_true rfl))) ?c2)) (a_cons (XO.xd (x_addl (ds1 := f.map tS) ?c3 (XO.xd (x_lst (a_cons x_str a_nil) (Nat.le_of_ble_eq_true rfl))) ?c4)) (a_cons (XO.xd (x_lst (a_cons x_str a_nil) (Nat.le_of_ble_eq_true rfl))) a_nil)))) (Nat.le_of_ble_eq_true rfl))) ?c5 e3) (fun v8 F8 H8 g8 S8 => ?_) (by decide +kernel))
        case c1 => walk_at "xd"
        case c2 =>
          rw [List.length_map, List.length_singleton]
          exact Nat.le_trans (Nat.succ_le_succ hfl) (by decide)
        case c3 => walk_at "xd"
        case c4 =>
          rw [List.length_map, List.length_singleton]
          exact Nat.le_trans (Nat.succ_le_succ hfl) (by decide)
        case c5 => walk_at "xd"
        exact ⟨F8, g, false, ⟨e1, .inr ⟨rfl, e2⟩⟩, ((G5.trans g6).trans g7).trans g8, S8⟩
    case a2 =>
      clear S1 S2 S3 S4 S5 g1 g2 g3 g4 g5 G5
      rintro σ6 H6 ⟨F6, g, b, ⟨hg, hb⟩, G6, S6⟩
      have dn := dn.grow G6
      let Mid2 : L2.St → Hp → Prop := fun σ' H' => ∃ (F' : Hp), Grow F6 H6 F' H' ∧ Stt M.K F' H' σ' [some (scr ns), some (fl g), some (.list ((Sta.cells f).map tP)), some (tSd s), some (tSd t), some (.bool b), none, none, none]
      refine s_cut Mid2 ?d1 ?d2
      case d2 =>
        rintro σ7 H7 ⟨F7, g7, S7⟩
        exact s_one (t_done (E := E) S7 x_bl (dn.grow g7))
      case d1 =>
        refine t_forR o fs S6 (by walk_at "ix") (r_1 (n := 6) o.toOk0 hran x_int (by decide)) (fun i F' σ' H' => Grow F6 H6 F' H' ∧ Stt M.K F' H' σ' [some (scr ns), some (fl g), some (.list ((Sta.cells f).map tP)), some (tSd s), some (tSd t), some (.bool b), none, none, none]) ?h0 ?hs ?hd
        case h0 =>
          intro F' H' g' S'
          exact ⟨g', S'⟩
        case hd =>
          rintro F' σ' H' e1 e2 ⟨g', S'⟩
          exact ⟨F', g', S'⟩
        case hs =>
          rintro i F' σ' H' hi e1 e2 ⟨g', S'⟩
          have hi5 : i ≤ 5 := by
            have : i < 6 := hi
            omega
          have S7 := S'.set (i := 6) (v := .int (0 + (i : Int))) (d := .int (0 + (i : Int))) (.int _)
          rw [show (0 : Int) + (i : Int) = (i : Int) by omega] at S7 ⊢
          have rel := rel12 hf hb hi5 s t
          refine s_cons (t_set (d := .int (dueP i b (Sta.cells f) s t)) o fs S7 (by walk_at "ix") (x_call o cDu pz0 ?p1 ⟨i, b, Sta.cells f, s, t, hi5, rfl, rfl⟩ (by decide) (by decide +kernel)) (fun v8 F8 H8 g8 S8 => ?_) (by decide +kernel))
          case p1 => exact a_cons (by walk_at "xd") (a_cons (by walk_at "xd") (a_cons (d := .list ((Sta.cells f).map tP)) (by walk_at "xd") (a_cons (d := tSd s) (by walk_at "xd") (a_cons (d := tSd t) (by walk_at "xd") a_nil))))
          refine s_cons (t_set (d := metD (due12 i g s t)) o fs S8 (by walk_at "ix") (x_call o cMe pz0 ?p2 ⟨i, g, s, t, ⟨hi5, hg⟩, rfl, rfl⟩ (by decide) (by decide +kernel)) (fun v9 F9 H9 g9 S9 => ?_) (by decide +kernel))
          case p2 => exact a_cons (by walk_at "xd") (a_cons (d := fl g) (by walk_at "xd") (a_cons (d := tSd s) (by walk_at "xd") (a_cons (d := tSd t) (by walk_at "xd") a_nil)))
          generalize dueP i b (Sta.cells f) s t = du at rel S9
          generalize due12 i g s t = n at rel S9
          have fin : ∀ {σ2 : L2.St} {F2 H2 : Hp} {env2}, Grow F9 H9 F2 H2 → Stt M.K F2 H2 σ2 env2 → leB [some (scr ns), some (fl g), some (.list ((Sta.cells f).map tP)), some (tSd s), some (tSd t), some (.bool b), none, none, none] env2 → Nx (fun F' σ' H' => Grow F6 H6 F' H' ∧ Stt M.K F' H' σ' [some (scr ns), some (fl g), some (.list ((Sta.cells f).map tP)), some (tSd s), some (tSd t), some (.bool b), none, none, none]) F' σ2 H2 := fun {σ2 F2 H2 env2} gg S2 hle => ⟨F2, (g8.ex.trans g9.ex).trans gg.ex, gg.le, ((g'.trans g8).trans g9).trans gg, S2.less hle⟩
          refine s_cons ?_
          rcases rel with ⟨h0, hn⟩ | ⟨h0, hn⟩
          · have hm : metD n = .list ((marksOf du).map PyData.bool) := by
              unfold metD
              rw [if_neg (by omega), hn]
            rw [hm] at S9
            refine' t_if (c := false) S9 (XB.to (XW.xb (w_and (c := true) (c' := false) (XB.to (b_ge (i := du) (j := 0) ?q1 x_int.xh) (decide_eq_true h0)) fun _ => w_and1 (XB.to (b_not (c := true) (b_val (XD.to (x_call o cF pz0 ?q2 ⟨marksOf du, du, rfl, rfl⟩ (by decide) (by decide +kernel)) (by rw [beq_self_eq_true])))) rfl))) rfl) (fun z => Bool.noConfusion z) ?q3
            case q1 => walk_at "xh"
            case q2 => walk_at "xa"
            case q3 =>
              intro _ F10 H10 g10 S10
              refine s_nil (s_one ?_)
              refine' t_if (c := false) S10 (XB.to (XW.xb (w_and (c := false) (c' := false) (XB.to (b_lt (i := du) (j := 0) ?q4 x_int.xh) (decide_eq_false (by omega))) fun z => Bool.noConfusion z)) rfl) (fun z => Bool.noConfusion z) ?q5
              case q4 => walk_at "xh"
              case q5 =>
                intro _ F11 H11 g11 S11
                exact s_nil (fin (g10.trans g11) S11 ⟨.inr rfl, .inr rfl, .inr rfl, .inr rfl, .inr rfl, .inr rfl, .inl rfl, .inl rfl, .inl rfl, trivial⟩)
          · subst h0
            refine' t_if (c := false) S9 (XB.to (XW.xb (w_and (c := false) (c' := false) (XB.to (b_ge (i := -1) (j := 0) ?q6 x_int.xh) (by decide)) fun z => Bool.noConfusion z)) rfl) (fun z => Bool.noConfusion z) ?q7
            case q6 => walk_at "xh"
            case q7 =>
              intro _ F10 H10 g10 S10
              refine s_nil (s_one ?_)
              rcases hn with rfl | ⟨rfl, rfl⟩
              · have hm : metD (-1) = .list [] := rfl
                rw [hm] at S10
                refine' t_if (c := false) S10 (XB.to (XW.xb (w_and (c := true) (c' := false) (XB.to (b_lt (i := -1) (j := 0) ?q8 x_int.xh) (by decide)) fun _ => w_and (c := false) (c' := false) ?q9 fun z => Bool.noConfusion z)) rfl) (fun z => Bool.noConfusion z) ?q10
                case q8 => walk_at "xh"
                case q9 => walk_at "xbt"
                case q10 =>
                  intro _ F11 H11 g11 S11
                  exact s_nil (fin (g10.trans g11) S11 ⟨.inr rfl, .inr rfl, .inr rfl, .inr rfl, .inr rfl, .inr rfl, .inl rfl, .inl rfl, .inl rfl, trivial⟩)
              · have hm : metD 4 = .list ((marksOf 4).map PyData.bool) := rfl
                rw [hm] at S10
                refine' t_if (c := false) S10 (XB.to (XW.xb (w_and (c := true) (c' := false) (XB.to (b_lt (i := -1) (j := 0) ?r8 x_int.xh) (by decide)) fun _ => w_and (c := true) (c' := false) ?r9 fun _ => w_and1 (XB.to (b_not (c := true) (XB.to (XW.xb (w_and (c := true) (c' := true) (XB.to (b_eq (d1 := .int ((1 : Nat) : Int)) (d2 := .int 1) o ?r10 x_int.xh rfl rfl) rfl) fun _ => w_and1 (b_val (XD.to (x_call o cF pz0 ?r11 ⟨marksOf 4, 4, rfl, rfl⟩ (by decide) (by decide +kernel)) (by rw [beq_self_eq_true]))))) rfl)) rfl))) rfl) (fun z => Bool.noConfusion z) ?r12
                case r8 => walk_at "xh"
                case r9 => exact XB.to (b_ne (d1 := .list ((marksOf 4).map PyData.bool)) (d2 := .list []) o (by walk_at "xh") (by walk_at "xh") rfl rfl) rfl
                case r10 => walk_at "xh"
                case r11 => walk_at "xa"
                case r12 =>
                  intro _ F11 H11 g11 S11
                  exact s_nil (fin (g10.trans g11) S11 ⟨.inr rfl, .inr rfl, .inr rfl, .inr rfl, .inr rfl, .inr rfl, .inl rfl, .inl rfl, .inl rfl, trivial⟩)
end
end Roll

namespace Roll
open PySem L2 Lay
theorem gc_ints {M : Md} {h : Heap} {x : Str} {a : Addr} {dd : Option Addr} {its : Array Value} {n : Nat} {sl : Array (Option Value)} (ns : List Int) (hx : M.mg x = some (.ref a)) (l : M.K.lookup a = some ⟨.type "tuple", dd, .seq its n, sl⟩) (hv : Vals (ns.map V.int) its.toList) (hz : its.size ≤ sizeLine) : Gc M x (.tuple (ns.map PyData.int)) :=
  ⟨.ref a, .ref a, hx, rfl, fun F => .tup (.inr ⟨_, its, n, l, rfl, rfl, hz, hv⟩) (dns_ints ns)⟩
theorem all_mk {P : Program} {w : World} {K : PySem.W.Frag} {h : Heap} {mg : Str → Option Value} {fa : Addr} (X : K.In h) (G : h.Ns mainGlobals mg) (hfa : mg "law" = some (.ref fa))
    {f0 : Addr} {od0 an0 : Option Addr} {sl0 : Array (Option Value)} {oc0 kV0 dc0 pm0 cd0 ct0 : Value}
    {f1 : Addr} {od1 an1 : Option Addr} {sl1 : Array (Option Value)} {oc1 kV1 dc1 pm1 cd1 ct1 : Value}
    {f2 : Addr} {od2 an2 : Option Addr} {sl2 : Array (Option Value)} {oc2 kV2 dc2 pm2 cd2 ct2 : Value}
    {f3 : Addr} {od3 an3 : Option Addr} {sl3 : Array (Option Value)} {oc3 kV3 dc3 pm3 cd3 ct3 : Value}
    {f4 : Addr} {od4 an4 : Option Addr} {sl4 : Array (Option Value)} {oc4 kV4 dc4 pm4 cd4 ct4 : Value}
    {f5 : Addr} {od5 an5 : Option Addr} {sl5 : Array (Option Value)} {oc5 kV5 dc5 pm5 cd5 ct5 : Value}
    {f6 : Addr} {od6 an6 : Option Addr} {sl6 : Array (Option Value)} {oc6 kV6 dc6 pm6 cd6 ct6 : Value}
    {f7 : Addr} {od7 an7 : Option Addr} {sl7 : Array (Option Value)} {oc7 kV7 dc7 pm7 cd7 ct7 : Value}
    {f8 : Addr} {od8 an8 : Option Addr} {sl8 : Array (Option Value)} {oc8 kV8 dc8 pm8 cd8 ct8 : Value}
    {f9 : Addr} {od9 an9 : Option Addr} {sl9 : Array (Option Value)} {oc9 kV9 dc9 pm9 cd9 ct9 : Value}
    {f10 : Addr} {od10 an10 : Option Addr} {sl10 : Array (Option Value)} {oc10 kV10 dc10 pm10 cd10 ct10 : Value}
    {f11 : Addr} {od11 an11 : Option Addr} {sl11 : Array (Option Value)} {oc11 kV11 dc11 pm11 cd11 ct11 : Value}
    {f12 : Addr} {od12 an12 : Option Addr} {sl12 : Array (Option Value)} {oc12 kV12 dc12 pm12 cd12 ct12 : Value}
    {f13 : Addr} {od13 an13 : Option Addr} {sl13 : Array (Option Value)} {oc13 kV13 dc13 pm13 cd13 ct13 : Value}
    {f14 : Addr} {od14 an14 : Option Addr} {sl14 : Array (Option Value)} {oc14 kV14 dc14 pm14 cd14 ct14 : Value}
    {f15 : Addr} {od15 an15 : Option Addr} {sl15 : Array (Option Value)} {oc15 kV15 dc15 pm15 cd15 ct15 : Value}
    {f16 : Addr} {od16 an16 : Option Addr} {sl16 : Array (Option Value)} {oc16 kV16 dc16 pm16 cd16 ct16 : Value}
    {f17 : Addr} {od17 an17 : Option Addr} {sl17 : Array (Option Value)} {oc17 kV17 dc17 pm17 cd17 ct17 : Value}
    {f18 : Addr} {od18 an18 : Option Addr} {sl18 : Array (Option Value)} {oc18 kV18 dc18 pm18 cd18 ct18 : Value}
    {f19 : Addr} {od19 an19 : Option Addr} {sl19 : Array (Option Value)} {oc19 kV19 dc19 pm19 cd19 ct19 : Value}
    {f20 : Addr} {od20 an20 : Option Addr} {sl20 : Array (Option Value)} {oc20 kV20 dc20 pm20 cd20 ct20 : Value}
    {f21 : Addr} {od21 an21 : Option Addr} {sl21 : Array (Option Value)} {oc21 kV21 dc21 pm21 cd21 ct21 : Value}
    {f22 : Addr} {od22 an22 : Option Addr} {sl22 : Array (Option Value)} {oc22 kV22 dc22 pm22 cd22 ct22 : Value}
    {f23 : Addr} {od23 an23 : Option Addr} {sl23 : Array (Option Value)} {oc23 kV23 dc23 pm23 cd23 ct23 : Value}
    {f24 : Addr} {od24 an24 : Option Addr} {sl24 : Array (Option Value)} {oc24 kV24 dc24 pm24 cd24 ct24 : Value}
    {f25 : Addr} {od25 an25 : Option Addr} {sl25 : Array (Option Value)} {oc25 kV25 dc25 pm25 cd25 ct25 : Value}
    {f26 : Addr} {od26 an26 : Option Addr} {sl26 : Array (Option Value)} {oc26 kV26 dc26 pm26 cd26 ct26 : Value}
    {f27 : Addr} {od27 an27 : Option Addr} {sl27 : Array (Option Value)} {oc27 kV27 dc27 pm27 cd27 ct27 : Value}
    {f28 : Addr} {od28 an28 : Option Addr} {sl28 : Array (Option Value)} {oc28 kV28 dc28 pm28 cd28 ct28 : Value}
    {f29 : Addr} {od29 an29 : Option Addr} {sl29 : Array (Option Value)} {oc29 kV29 dc29 pm29 cd29 ct29 : Value}
    {f30 : Addr} {od30 an30 : Option Addr} {sl30 : Array (Option Value)} {oc30 kV30 dc30 pm30 cd30 ct30 : Value}
    {CD C0 C1 C2 C3 C4 : Addr}
    {xFIRST : Addr} {xoFIRST : Option Addr} {xnFIRST : Nat} {xsFIRST : Array (Option Value)} {tFIRST0 tFIRST1 tFIRST2 : Tok}
    {xPAIRS : Addr} {xoPAIRS : Option Addr} {xnPAIRS : Nat} {xsPAIRS : Array (Option Value)} {tPAIRS0 tPAIRS1 tPAIRS2 tPAIRS3 tPAIRS4 tPAIRS5 tPAIRS6 : Tok}
    {tROLLS : Tok}
    {tMOST : Tok}
    {xST pn pe ps pw : Addr} {hn he hs hw : Int} {kn ke ks kw n0 n1 e0 e1 s0 s1 w0 w1 : Tok} {nST mn me ms mw : Nat} {dn de ds dw : Option Addr} {ln le ls lw : Array (Option Value)}
    (a0 : PySem.W.nsIn K mainGlobals "rolled_by" = some (some (.ref f0)))
    (l0 : K.lookup f0 = some ⟨oc0, od0, .func (PySem.W.fnOf "rolled_by" "rolled_by" (defArgs s_rolled_by) (defBody s_rolled_by) (defScope s_rolled_by) .none kV0 dc0 pm0 an0 cd0 ct0), sl0⟩)
    (c0 : PySem.W.codeIn K cd0 "rolled_by" = true)
    (k0 : PySem.W.keepIn K (.ref f0) = true)
    (a1 : PySem.W.nsIn K mainGlobals "pairs_of" = some (some (.ref f1)))
    (l1 : K.lookup f1 = some ⟨oc1, od1, .func (PySem.W.fnOf "pairs_of" "pairs_of" (defArgs s_pairs_of) (defBody s_pairs_of) (defScope s_pairs_of) .none kV1 dc1 pm1 an1 cd1 ct1), sl1⟩)
    (c1 : PySem.W.codeIn K cd1 "pairs_of" = true)
    (k1 : PySem.W.keepIn K (.ref f1) = true)
    (a2 : PySem.W.nsIn K mainGlobals "disorder" = some (some (.ref f2)))
    (l2 : K.lookup f2 = some ⟨oc2, od2, .func (PySem.W.fnOf "disorder" "disorder" (defArgs s_disorder) (defBody s_disorder) (defScope s_disorder) .none kV2 dc2 pm2 an2 cd2 ct2), sl2⟩)
    (c2 : PySem.W.codeIn K cd2 "disorder" = true)
    (k2 : PySem.W.keepIn K (.ref f2) = true)
    (a3 : PySem.W.nsIn K mainGlobals "is_lie" = some (some (.ref f3)))
    (l3 : K.lookup f3 = some ⟨oc3, od3, .func (PySem.W.fnOf "is_lie" "is_lie" (defArgs s_is_lie) (defBody s_is_lie) (defScope s_is_lie) .none kV3 dc3 pm3 an3 cd3 ct3), sl3⟩)
    (c3 : PySem.W.codeIn K cd3 "is_lie" = true)
    (k3 : PySem.W.keepIn K (.ref f3) = true)
    (a4 : PySem.W.nsIn K mainGlobals "must_be_lie" = some (some (.ref f4)))
    (l4 : K.lookup f4 = some ⟨oc4, od4, .func (PySem.W.fnOf "must_be_lie" "must_be_lie" (defArgs s_must_be_lie) (defBody s_must_be_lie) (defScope s_must_be_lie) .none kV4 dc4 pm4 an4 cd4 ct4), sl4⟩)
    (c4 : PySem.W.codeIn K cd4 "must_be_lie" = true)
    (k4 : PySem.W.keepIn K (.ref f4) = true)
    (a5 : PySem.W.nsIn K mainGlobals "must_be_floor" = some (some (.ref f5)))
    (l5 : K.lookup f5 = some ⟨oc5, od5, .func (PySem.W.fnOf "must_be_floor" "must_be_floor" (defArgs s_must_be_floor) (defBody s_must_be_floor) (defScope s_must_be_floor) .none kV5 dc5 pm5 an5 cd5 ct5), sl5⟩)
    (c5 : PySem.W.codeIn K cd5 "must_be_floor" = true)
    (k5 : PySem.W.keepIn K (.ref f5) = true)
    (a6 : PySem.W.nsIn K mainGlobals "is_cell" = some (some (.ref f6)))
    (l6 : K.lookup f6 = some ⟨oc6, od6, .func (PySem.W.fnOf "is_cell" "is_cell" (defArgs s_is_cell) (defBody s_is_cell) (defScope s_is_cell) .none kV6 dc6 pm6 an6 cd6 ct6), sl6⟩)
    (c6 : PySem.W.codeIn K cd6 "is_cell" = true)
    (k6 : PySem.W.keepIn K (.ref f6) = true)
    (a7 : PySem.W.nsIn K mainGlobals "must_be_cell" = some (some (.ref f7)))
    (l7 : K.lookup f7 = some ⟨oc7, od7, .func (PySem.W.fnOf "must_be_cell" "must_be_cell" (defArgs s_must_be_cell) (defBody s_must_be_cell) (defScope s_must_be_cell) .none kV7 dc7 pm7 an7 cd7 ct7), sl7⟩)
    (c7 : PySem.W.codeIn K cd7 "must_be_cell" = true)
    (k7 : PySem.W.keepIn K (.ref f7) = true)
    (a8 : PySem.W.nsIn K mainGlobals "must_be_stand" = some (some (.ref f8)))
    (l8 : K.lookup f8 = some ⟨oc8, od8, .func (PySem.W.fnOf "must_be_stand" "must_be_stand" (defArgs s_must_be_stand) (defBody s_must_be_stand) (defScope s_must_be_stand) .none kV8 dc8 pm8 an8 cd8 ct8), sl8⟩)
    (c8 : PySem.W.codeIn K cd8 "must_be_stand" = true)
    (k8 : PySem.W.keepIn K (.ref f8) = true)
    (a9 : PySem.W.nsIn K mainGlobals "next_stand" = some (some (.ref f9)))
    (l9 : K.lookup f9 = some ⟨oc9, od9, .func (PySem.W.fnOf "next_stand" "next_stand" (defArgs s_next_stand) (defBody s_next_stand) (defScope s_next_stand) .none kV9 dc9 pm9 an9 cd9 ct9), sl9⟩)
    (c9 : PySem.W.codeIn K cd9 "next_stand" = true)
    (k9 : PySem.W.keepIn K (.ref f9) = true)
    (a10 : PySem.W.nsIn K mainGlobals "walked" = some (some (.ref f10)))
    (l10 : K.lookup f10 = some ⟨oc10, od10, .func (PySem.W.fnOf "walked" "walked" (defArgs s_walked) (defBody s_walked) (defScope s_walked) .none kV10 dc10 pm10 an10 cd10 ct10), sl10⟩)
    (c10 : PySem.W.codeIn K cd10 "walked" = true)
    (k10 : PySem.W.keepIn K (.ref f10) = true)
    (a11 : PySem.W.nsIn K mainGlobals "distances" = some (some (.ref f11)))
    (l11 : K.lookup f11 = some ⟨oc11, od11, .func (PySem.W.fnOf "distances" "distances" (defArgs s_distances) (defBody s_distances) (defScope s_distances) .none kV11 dc11 pm11 an11 cd11 ct11), sl11⟩)
    (c11 : PySem.W.codeIn K cd11 "distances" = true)
    (k11 : PySem.W.keepIn K (.ref f11) = true)
    (a12 : PySem.W.nsIn K mainGlobals "come_to" = some (some (.ref f12)))
    (l12 : K.lookup f12 = some ⟨oc12, od12, .func (PySem.W.fnOf "come_to" "come_to" (defArgs s_come_to) (defBody s_come_to) (defScope s_come_to) .none kV12 dc12 pm12 an12 cd12 ct12), sl12⟩)
    (c12 : PySem.W.codeIn K cd12 "come_to" = true)
    (k12 : PySem.W.keepIn K (.ref f12) = true)
    (a13 : PySem.W.nsIn K mainGlobals "way" = some (some (.ref f13)))
    (l13 : K.lookup f13 = some ⟨oc13, od13, .func (PySem.W.fnOf "way" "way" (defArgs s_way) (defBody s_way) (defScope s_way) .none kV13 dc13 pm13 an13 cd13 ct13), sl13⟩)
    (c13 : PySem.W.codeIn K cd13 "way" = true)
    (k13 : PySem.W.keepIn K (.ref f13) = true)
    (a14 : PySem.W.nsIn K mainGlobals "ends" = some (some (.ref f14)))
    (l14 : K.lookup f14 = some ⟨oc14, od14, .func (PySem.W.fnOf "ends" "ends" (defArgs s_ends) (defBody s_ends) (defScope s_ends) .none kV14 dc14 pm14 an14 cd14 ct14), sl14⟩)
    (c14 : PySem.W.codeIn K cd14 "ends" = true)
    (k14 : PySem.W.keepIn K (.ref f14) = true)
    (a15 : PySem.W.nsIn K mainGlobals "firm" = some (some (.ref f15)))
    (l15 : K.lookup f15 = some ⟨oc15, od15, .func (PySem.W.fnOf "firm" "firm" (defArgs s_firm) (defBody s_firm) (defScope s_firm) .none kV15 dc15 pm15 an15 cd15 ct15), sl15⟩)
    (c15 : PySem.W.codeIn K cd15 "firm" = true)
    (k15 : PySem.W.keepIn K (.ref f15) = true)
    (a16 : PySem.W.nsIn K mainGlobals "turns" = some (some (.ref f16)))
    (l16 : K.lookup f16 = some ⟨oc16, od16, .func (PySem.W.fnOf "turns" "turns" (defArgs s_turns) (defBody s_turns) (defScope s_turns) .none kV16 dc16 pm16 an16 cd16 ct16), sl16⟩)
    (c16 : PySem.W.codeIn K cd16 "turns" = true)
    (k16 : PySem.W.keepIn K (.ref f16) = true)
    (a17 : PySem.W.nsIn K mainGlobals "_law_cell_at" = some (some (.ref f17)))
    (l17 : K.lookup f17 = some ⟨oc17, od17, .func (PySem.W.fnOf "_law_cell_at" "_law_cell_at" (defArgs s__law_cell_at) (defBody s__law_cell_at) (defScope s__law_cell_at) .none kV17 dc17 pm17 an17 cd17 ct17), sl17⟩)
    (c17 : PySem.W.codeIn K cd17 "_law_cell_at" = true)
    (k17 : PySem.W.keepIn K (.ref f17) = true)
    (a18 : PySem.W.nsIn K mainGlobals "_law_mix" = some (some (.ref f18)))
    (l18 : K.lookup f18 = some ⟨oc18, od18, .func (PySem.W.fnOf "_law_mix" "_law_mix" (defArgs s__law_mix) (defBody s__law_mix) (defScope s__law_mix) .none kV18 dc18 pm18 an18 cd18 ct18), sl18⟩)
    (c18 : PySem.W.codeIn K cd18 "_law_mix" = true)
    (k18 : PySem.W.keepIn K (.ref f18) = true)
    (a19 : PySem.W.nsIn K mainGlobals "_law_pairs" = some (some (.ref f19)))
    (l19 : K.lookup f19 = some ⟨oc19, od19, .func (PySem.W.fnOf "_law_pairs" "_law_pairs" (defArgs s__law_pairs) (defBody s__law_pairs) (defScope s__law_pairs) .none kV19 dc19 pm19 an19 cd19 ct19), sl19⟩)
    (c19 : PySem.W.codeIn K cd19 "_law_pairs" = true)
    (k19 : PySem.W.keepIn K (.ref f19) = true)
    (a20 : PySem.W.nsIn K mainGlobals "_law_odd" = some (some (.ref f20)))
    (l20 : K.lookup f20 = some ⟨oc20, od20, .func (PySem.W.fnOf "_law_odd" "_law_odd" (defArgs s__law_odd) (defBody s__law_odd) (defScope s__law_odd) .none kV20 dc20 pm20 an20 cd20 ct20), sl20⟩)
    (c20 : PySem.W.codeIn K cd20 "_law_odd" = true)
    (k20 : PySem.W.keepIn K (.ref f20) = true)
    (a21 : PySem.W.nsIn K mainGlobals "_law_is_lie" = some (some (.ref f21)))
    (l21 : K.lookup f21 = some ⟨oc21, od21, .func (PySem.W.fnOf "_law_is_lie" "_law_is_lie" (defArgs s__law_is_lie) (defBody s__law_is_lie) (defScope s__law_is_lie) .none kV21 dc21 pm21 an21 cd21 ct21), sl21⟩)
    (c21 : PySem.W.codeIn K cd21 "_law_is_lie" = true)
    (k21 : PySem.W.keepIn K (.ref f21) = true)
    (a22 : PySem.W.nsIn K mainGlobals "_law_lies" = some (some (.ref f22)))
    (l22 : K.lookup f22 = some ⟨oc22, od22, .func (PySem.W.fnOf "_law_lies" "_law_lies" (defArgs s__law_lies) (defBody s__law_lies) (defScope s__law_lies) .none kV22 dc22 pm22 an22 cd22 ct22), sl22⟩)
    (c22 : PySem.W.codeIn K cd22 "_law_lies" = true)
    (k22 : PySem.W.keepIn K (.ref f22) = true)
    (a23 : PySem.W.nsIn K mainGlobals "_law_floor" = some (some (.ref f23)))
    (l23 : K.lookup f23 = some ⟨oc23, od23, .func (PySem.W.fnOf "_law_floor" "_law_floor" (defArgs s__law_floor) (defBody s__law_floor) (defScope s__law_floor) .none kV23 dc23 pm23 an23 cd23 ct23), sl23⟩)
    (c23 : PySem.W.codeIn K cd23 "_law_floor" = true)
    (k23 : PySem.W.keepIn K (.ref f23) = true)
    (a24 : PySem.W.nsIn K mainGlobals "_law_cells" = some (some (.ref f24)))
    (l24 : K.lookup f24 = some ⟨oc24, od24, .func (PySem.W.fnOf "_law_cells" "_law_cells" (defArgs s__law_cells) (defBody s__law_cells) (defScope s__law_cells) .none kV24 dc24 pm24 an24 cd24 ct24), sl24⟩)
    (c24 : PySem.W.codeIn K cd24 "_law_cells" = true)
    (k24 : PySem.W.keepIn K (.ref f24) = true)
    (a25 : PySem.W.nsIn K mainGlobals "_law_refused" = some (some (.ref f25)))
    (l25 : K.lookup f25 = some ⟨oc25, od25, .func (PySem.W.fnOf "_law_refused" "_law_refused" (defArgs s__law_refused) (defBody s__law_refused) (defScope s__law_refused) .none kV25 dc25 pm25 an25 cd25 ct25), sl25⟩)
    (c25 : PySem.W.codeIn K cd25 "_law_refused" = true)
    (k25 : PySem.W.keepIn K (.ref f25) = true)
    (a26 : PySem.W.nsIn K mainGlobals "_law_called" = some (some (.ref f26)))
    (l26 : K.lookup f26 = some ⟨oc26, od26, .func (PySem.W.fnOf "_law_called" "_law_called" (defArgs s__law_called) (defBody s__law_called) (defScope s__law_called) .none kV26 dc26 pm26 an26 cd26 ct26), sl26⟩)
    (c26 : PySem.W.codeIn K cd26 "_law_called" = true)
    (k26 : PySem.W.keepIn K (.ref f26) = true)
    (a27 : PySem.W.nsIn K mainGlobals "_law_met" = some (some (.ref f27)))
    (l27 : K.lookup f27 = some ⟨oc27, od27, .func (PySem.W.fnOf "_law_met" "_law_met" (defArgs s__law_met) (defBody s__law_met) (defScope s__law_met) .none kV27 dc27 pm27 an27 cd27 ct27), sl27⟩)
    (c27 : PySem.W.codeIn K cd27 "_law_met" = true)
    (k27 : PySem.W.keepIn K (.ref f27) = true)
    (a28 : PySem.W.nsIn K mainGlobals "_law_due" = some (some (.ref f28)))
    (l28 : K.lookup f28 = some ⟨oc28, od28, .func (PySem.W.fnOf "_law_due" "_law_due" (defArgs s__law_due) (defBody s__law_due) (defScope s__law_due) .none kV28 dc28 pm28 an28 cd28 ct28), sl28⟩)
    (c28 : PySem.W.codeIn K cd28 "_law_due" = true)
    (k28 : PySem.W.keepIn K (.ref f28) = true)
    (a29 : PySem.W.nsIn K mainGlobals "_law_stand" = some (some (.ref f29)))
    (l29 : K.lookup f29 = some ⟨oc29, od29, .func (PySem.W.fnOf "_law_stand" "_law_stand" (defArgs s__law_stand) (defBody s__law_stand) (defScope s__law_stand) .none kV29 dc29 pm29 an29 cd29 ct29), sl29⟩)
    (c29 : PySem.W.codeIn K cd29 "_law_stand" = true)
    (k29 : PySem.W.keepIn K (.ref f29) = true)
    (a30 : PySem.W.nsIn K mainGlobals "law" = some (some (.ref f30)))
    (l30 : K.lookup f30 = some ⟨oc30, od30, .func (PySem.W.fnOf "law" "law" (defArgs s_law) (defBody s_law) (defScope s_law) .none kV30 dc30 pm30 an30 cd30 ct30), sl30⟩)
    (c30 : PySem.W.codeIn K cd30 "law" = true)
    (k30 : PySem.W.keepIn K (.ref f30) = true)
    (gCD : PySem.W.nsIn K mainGlobals "DieError" = some (some (.ref CD)))
    (gC0 : PySem.W.nsIn K mainGlobals "NoFloor" = some (some (.ref C0)))
    (gC1 : PySem.W.nsIn K mainGlobals "NoCell" = some (some (.ref C1)))
    (gC2 : PySem.W.nsIn K mainGlobals "NoLie" = some (some (.ref C2)))
    (gC3 : PySem.W.nsIn K mainGlobals "NoRoll" = some (some (.ref C3)))
    (gC4 : PySem.W.nsIn K mainGlobals "NoWay" = some (some (.ref C4)))
    (dB : PySem.W.subIn K (.ref CD) (.type "BaseException") = some true) (dH : PySem.W.hasDictIn K CD = true) (dT : PySem.W.typeIn K (.ref CD) = some (.type "type"))
    (sN : PySem.W.specialIn K (.builtin "object.__class__") "__get__" = some (some (.builtin "getset_descriptor.__get__"))) (sT : PySem.W.takesIn K (.builtin "object.__class__") = some true)
    (xc0 : PySem.W.excIn K C0 [.type "ValueError", .type "Exception", .type "BaseException", .type "object"] "ValueError.__new__" = true)
    (kp0 : PySem.W.keepIn K (.ref C0) = true)
    (sb0 : PySem.W.subIn K (.ref C0) (.type "BaseException") = some true)
    (ty0 : PySem.W.typeIn K (.ref C0) = some (.type "type"))
    (ga0 : PySem.W.findIn K (.ref C0) "__getattribute__" = some (some (.builtin "BaseException.__getattribute__")))
    (gt0 : PySem.W.findIn K (.ref C0) "__getattr__" = some none)
    (hd0 : PySem.W.hasDictIn K C0 = true)
    (hc0 : PySem.W.findIn K (.ref C0) "__class__" = some (some (.builtin "object.__class__")))
    (hm0 : PySem.W.mroIn K C0 (.type "object") = some true)
    (sD0 : PySem.W.subIn K (.ref C0) (.ref CD) = some true)
    (eV0 : PySem.W.kitOne K (.ref C0) (.type "ValueError") = some true)
    (kt00 : PySem.W.kitOne K (.ref C0) (.ref C0) = some true)
    (kt01 : PySem.W.kitOne K (.ref C0) (.ref C1) = some false)
    (kt02 : PySem.W.kitOne K (.ref C0) (.ref C2) = some false)
    (kt03 : PySem.W.kitOne K (.ref C0) (.ref C3) = some false)
    (kt04 : PySem.W.kitOne K (.ref C0) (.ref C4) = some false)
    (xc1 : PySem.W.excIn K C1 [.type "ValueError", .type "Exception", .type "BaseException", .type "object"] "ValueError.__new__" = true)
    (kp1 : PySem.W.keepIn K (.ref C1) = true)
    (sb1 : PySem.W.subIn K (.ref C1) (.type "BaseException") = some true)
    (ty1 : PySem.W.typeIn K (.ref C1) = some (.type "type"))
    (ga1 : PySem.W.findIn K (.ref C1) "__getattribute__" = some (some (.builtin "BaseException.__getattribute__")))
    (gt1 : PySem.W.findIn K (.ref C1) "__getattr__" = some none)
    (hd1 : PySem.W.hasDictIn K C1 = true)
    (hc1 : PySem.W.findIn K (.ref C1) "__class__" = some (some (.builtin "object.__class__")))
    (hm1 : PySem.W.mroIn K C1 (.type "object") = some true)
    (sD1 : PySem.W.subIn K (.ref C1) (.ref CD) = some true)
    (eV1 : PySem.W.kitOne K (.ref C1) (.type "ValueError") = some true)
    (kt10 : PySem.W.kitOne K (.ref C1) (.ref C0) = some false)
    (kt11 : PySem.W.kitOne K (.ref C1) (.ref C1) = some true)
    (kt12 : PySem.W.kitOne K (.ref C1) (.ref C2) = some false)
    (kt13 : PySem.W.kitOne K (.ref C1) (.ref C3) = some false)
    (kt14 : PySem.W.kitOne K (.ref C1) (.ref C4) = some false)
    (xc2 : PySem.W.excIn K C2 [.type "ValueError", .type "Exception", .type "BaseException", .type "object"] "ValueError.__new__" = true)
    (kp2 : PySem.W.keepIn K (.ref C2) = true)
    (sb2 : PySem.W.subIn K (.ref C2) (.type "BaseException") = some true)
    (ty2 : PySem.W.typeIn K (.ref C2) = some (.type "type"))
    (ga2 : PySem.W.findIn K (.ref C2) "__getattribute__" = some (some (.builtin "BaseException.__getattribute__")))
    (gt2 : PySem.W.findIn K (.ref C2) "__getattr__" = some none)
    (hd2 : PySem.W.hasDictIn K C2 = true)
    (hc2 : PySem.W.findIn K (.ref C2) "__class__" = some (some (.builtin "object.__class__")))
    (hm2 : PySem.W.mroIn K C2 (.type "object") = some true)
    (sD2 : PySem.W.subIn K (.ref C2) (.ref CD) = some true)
    (eV2 : PySem.W.kitOne K (.ref C2) (.type "ValueError") = some true)
    (kt20 : PySem.W.kitOne K (.ref C2) (.ref C0) = some false)
    (kt21 : PySem.W.kitOne K (.ref C2) (.ref C1) = some false)
    (kt22 : PySem.W.kitOne K (.ref C2) (.ref C2) = some true)
    (kt23 : PySem.W.kitOne K (.ref C2) (.ref C3) = some false)
    (kt24 : PySem.W.kitOne K (.ref C2) (.ref C4) = some false)
    (xc3 : PySem.W.excIn K C3 [.type "ValueError", .type "Exception", .type "BaseException", .type "object"] "ValueError.__new__" = true)
    (kp3 : PySem.W.keepIn K (.ref C3) = true)
    (sb3 : PySem.W.subIn K (.ref C3) (.type "BaseException") = some true)
    (ty3 : PySem.W.typeIn K (.ref C3) = some (.type "type"))
    (ga3 : PySem.W.findIn K (.ref C3) "__getattribute__" = some (some (.builtin "BaseException.__getattribute__")))
    (gt3 : PySem.W.findIn K (.ref C3) "__getattr__" = some none)
    (hd3 : PySem.W.hasDictIn K C3 = true)
    (hc3 : PySem.W.findIn K (.ref C3) "__class__" = some (some (.builtin "object.__class__")))
    (hm3 : PySem.W.mroIn K C3 (.type "object") = some true)
    (sD3 : PySem.W.subIn K (.ref C3) (.ref CD) = some true)
    (eV3 : PySem.W.kitOne K (.ref C3) (.type "ValueError") = some true)
    (kt30 : PySem.W.kitOne K (.ref C3) (.ref C0) = some false)
    (kt31 : PySem.W.kitOne K (.ref C3) (.ref C1) = some false)
    (kt32 : PySem.W.kitOne K (.ref C3) (.ref C2) = some false)
    (kt33 : PySem.W.kitOne K (.ref C3) (.ref C3) = some true)
    (kt34 : PySem.W.kitOne K (.ref C3) (.ref C4) = some false)
    (xc4 : PySem.W.excIn K C4 [.type "ValueError", .type "Exception", .type "BaseException", .type "object"] "ValueError.__new__" = true)
    (kp4 : PySem.W.keepIn K (.ref C4) = true)
    (sb4 : PySem.W.subIn K (.ref C4) (.type "BaseException") = some true)
    (ty4 : PySem.W.typeIn K (.ref C4) = some (.type "type"))
    (ga4 : PySem.W.findIn K (.ref C4) "__getattribute__" = some (some (.builtin "BaseException.__getattribute__")))
    (gt4 : PySem.W.findIn K (.ref C4) "__getattr__" = some none)
    (hd4 : PySem.W.hasDictIn K C4 = true)
    (hc4 : PySem.W.findIn K (.ref C4) "__class__" = some (some (.builtin "object.__class__")))
    (hm4 : PySem.W.mroIn K C4 (.type "object") = some true)
    (sD4 : PySem.W.subIn K (.ref C4) (.ref CD) = some true)
    (eV4 : PySem.W.kitOne K (.ref C4) (.type "ValueError") = some true)
    (kt40 : PySem.W.kitOne K (.ref C4) (.ref C0) = some false)
    (kt41 : PySem.W.kitOne K (.ref C4) (.ref C1) = some false)
    (kt42 : PySem.W.kitOne K (.ref C4) (.ref C2) = some false)
    (kt43 : PySem.W.kitOne K (.ref C4) (.ref C3) = some false)
    (kt44 : PySem.W.kitOne K (.ref C4) (.ref C4) = some true)
    (nFIRST : PySem.W.nsIn K mainGlobals "FIRST" = some (some (.ref xFIRST)))
    (mFIRST : K.lookup xFIRST = some ⟨.type "tuple", xoFIRST, .seq #[.int 1 tFIRST0, .int 2 tFIRST1, .int 3 tFIRST2] xnFIRST, xsFIRST⟩)
    (nPAIRS : PySem.W.nsIn K mainGlobals "PAIRS" = some (some (.ref xPAIRS)))
    (mPAIRS : K.lookup xPAIRS = some ⟨.type "tuple", xoPAIRS, .seq #[.int 0 tPAIRS0, .int 1 tPAIRS1, .int 2 tPAIRS2, .int 3 tPAIRS3, .int 3 tPAIRS4, .int 2 tPAIRS5, .int 1 tPAIRS6] xnPAIRS, xsPAIRS⟩)
    (nROLLS : PySem.W.nsIn K mainGlobals "ROLLS" = some (some (.str "ensw" tROLLS)))
    (nMOST : PySem.W.nsIn K mainGlobals "MOST" = some (some (.int 8 tMOST)))
    (nST0 : PySem.W.nsIn K mainGlobals "STEPS" = some (some (.ref xST)))
    (lST : K.lookup xST = some ⟨.type "dict", none, .dict #[⟨hn, .str "n" kn, .ref pn⟩, ⟨he, .str "e" ke, .ref pe⟩, ⟨hs, .str "s" ks, .ref ps⟩, ⟨hw, .str "w" kw, .ref pw⟩] nST, #[]⟩)
    (lPn : K.lookup pn = some ⟨.type "tuple", dn, .seq #[.int (-1) n0, .int 0 n1] mn, ln⟩)
    (lPe : K.lookup pe = some ⟨.type "tuple", de, .seq #[.int 0 e0, .int 1 e1] me, le⟩)
    (lPs : K.lookup ps = some ⟨.type "tuple", ds, .seq #[.int 1 s0, .int 0 s1] ms, ls⟩)
    (lPw : K.lookup pw = some ⟨.type "tuple", dw, .seq #[.int 0 w0, .int (-1) w1] mw, lw⟩)
    (qST : PySem.W.KeysLit w.params [⟨hn, .str "n" kn, .ref pn⟩, ⟨he, .str "e" ke, .ref pe⟩, ⟨hs, .str "s" ks, .ref ps⟩, ⟨hw, .str "w" kw, .ref pw⟩])
    (zST : (xST == sysModules) = false)
    (zlen : PySem.W.nsIn K mainGlobals "len" = some none)
    (zrange : PySem.W.nsIn K mainGlobals "range" = some none)
    (zsorted : PySem.W.nsIn K mainGlobals "sorted" = some none)
    (zisinstance : PySem.W.nsIn K mainGlobals "isinstance" = some none)
    (zint : PySem.W.nsIn K mainGlobals "int" = some none)
    (zset : PySem.W.nsIn K mainGlobals "set" = some none)
    (zValueError : PySem.W.nsIn K mainGlobals "ValueError" = some none)
    : ∃ fd : FuncData, (∀ (s : Shared) (v : Value), BindsTo s fd ⟨[v], []⟩ [("script", v)]) ∧ ∀ base : Heap, K.In base → base.Ns mainGlobals mg → FnOk P w K mg base CX0 9 fa fd ["script"] (spG K rLaw) := by
  have e := hfa.symm.trans (PySem.W.mg_of X G a30)
  cases e
  refine ⟨PySem.W.fnOf "law" "law" (defArgs s_law) (defBody s_law) (defScope s_law) .none kV30 dc30 pm30 an30 cd30 ct30, fun s v => .of_eq rfl, fun base KB NB => ?_⟩
  let M : Md := ⟨P, w, K, mg, base⟩
  have h_len : M.mg "len" = none := PySem.W.mg_none_of X G zlen
  have h_range : M.mg "range" = none := PySem.W.mg_none_of X G zrange
  have h_sorted : M.mg "sorted" = none := PySem.W.mg_none_of X G zsorted
  have h_isinstance : M.mg "isinstance" = none := PySem.W.mg_none_of X G zisinstance
  have h_int : M.mg "int" = none := PySem.W.mg_none_of X G zint
  have h_set : M.mg "set" = none := PySem.W.mg_none_of X G zset
  have h_ValueError : M.mg "ValueError" = none := PySem.W.mg_none_of X G zValueError
  have F_rolled_by : Fun M.K "rolled_by" "rolled_by" s_rolled_by f0 _ := fun_mk (st := s_rolled_by) l0 c0 k0
  have g_rolled_by : M.mg "rolled_by" = some (.ref f0) := PySem.W.mg_of X G a0
  have b_rolled_by := F_rolled_by.binds (ps := ["lie", "roll"]) fun _ _ _ _ _ _ us hl => match us, hl with | [_, _], _ => rfl
  have F_pairs_of : Fun M.K "pairs_of" "pairs_of" s_pairs_of f1 _ := fun_mk (st := s_pairs_of) l1 c1 k1
  have g_pairs_of : M.mg "pairs_of" = some (.ref f1) := PySem.W.mg_of X G a1
  have b_pairs_of := F_pairs_of.binds (ps := ["lie"]) fun _ _ _ _ _ _ us hl => match us, hl with | [_], _ => rfl
  have F_disorder : Fun M.K "disorder" "disorder" s_disorder f2 _ := fun_mk (st := s_disorder) l2 c2 k2
  have g_disorder : M.mg "disorder" = some (.ref f2) := PySem.W.mg_of X G a2
  have b_disorder := F_disorder.binds (ps := ["row"]) fun _ _ _ _ _ _ us hl => match us, hl with | [_], _ => rfl
  have F_is_lie : Fun M.K "is_lie" "is_lie" s_is_lie f3 _ := fun_mk (st := s_is_lie) l3 c3 k3
  have g_is_lie : M.mg "is_lie" = some (.ref f3) := PySem.W.mg_of X G a3
  have b_is_lie := F_is_lie.binds (ps := ["lie"]) fun _ _ _ _ _ _ us hl => match us, hl with | [_], _ => rfl
  have F_must_be_lie : Fun M.K "must_be_lie" "must_be_lie" s_must_be_lie f4 _ := fun_mk (st := s_must_be_lie) l4 c4 k4
  have g_must_be_lie : M.mg "must_be_lie" = some (.ref f4) := PySem.W.mg_of X G a4
  have b_must_be_lie := F_must_be_lie.binds (ps := ["lie"]) fun _ _ _ _ _ _ us hl => match us, hl with | [_], _ => rfl
  have F_must_be_floor : Fun M.K "must_be_floor" "must_be_floor" s_must_be_floor f5 _ := fun_mk (st := s_must_be_floor) l5 c5 k5
  have g_must_be_floor : M.mg "must_be_floor" = some (.ref f5) := PySem.W.mg_of X G a5
  have b_must_be_floor := F_must_be_floor.binds (ps := ["floor"]) fun _ _ _ _ _ _ us hl => match us, hl with | [_], _ => rfl
  have F_is_cell : Fun M.K "is_cell" "is_cell" s_is_cell f6 _ := fun_mk (st := s_is_cell) l6 c6 k6
  have g_is_cell : M.mg "is_cell" = some (.ref f6) := PySem.W.mg_of X G a6
  have b_is_cell := F_is_cell.binds (ps := ["floor", "place"]) fun _ _ _ _ _ _ us hl => match us, hl with | [_, _], _ => rfl
  have F_must_be_cell : Fun M.K "must_be_cell" "must_be_cell" s_must_be_cell f7 _ := fun_mk (st := s_must_be_cell) l7 c7 k7
  have g_must_be_cell : M.mg "must_be_cell" = some (.ref f7) := PySem.W.mg_of X G a7
  have b_must_be_cell := F_must_be_cell.binds (ps := ["floor", "place"]) fun _ _ _ _ _ _ us hl => match us, hl with | [_, _], _ => rfl
  have F_must_be_stand : Fun M.K "must_be_stand" "must_be_stand" s_must_be_stand f8 _ := fun_mk (st := s_must_be_stand) l8 c8 k8
  have g_must_be_stand : M.mg "must_be_stand" = some (.ref f8) := PySem.W.mg_of X G a8
  have b_must_be_stand := F_must_be_stand.binds (ps := ["floor", "stand"]) fun _ _ _ _ _ _ us hl => match us, hl with | [_, _], _ => rfl
  have F_next_stand : Fun M.K "next_stand" "next_stand" s_next_stand f9 _ := fun_mk (st := s_next_stand) l9 c9 k9
  have g_next_stand : M.mg "next_stand" = some (.ref f9) := PySem.W.mg_of X G a9
  have b_next_stand := F_next_stand.binds (ps := ["floor", "stand", "roll"]) fun _ _ _ _ _ _ us hl => match us, hl with | [_, _, _], _ => rfl
  have F_walked : Fun M.K "walked" "walked" s_walked f10 _ := fun_mk (st := s_walked) l10 c10 k10
  have g_walked : M.mg "walked" = some (.ref f10) := PySem.W.mg_of X G a10
  have b_walked := F_walked.binds (ps := ["floor", "stand", "rolls"]) fun _ _ _ _ _ _ us hl => match us, hl with | [_, _, _], _ => rfl
  have F_distances : Fun M.K "distances" "distances" s_distances f11 _ := fun_mk (st := s_distances) l11 c11 k11
  have g_distances : M.mg "distances" = some (.ref f11) := PySem.W.mg_of X G a11
  have b_distances := F_distances.binds (ps := ["floor", "stand"]) fun _ _ _ _ _ _ us hl => match us, hl with | [_, _], _ => rfl
  have F_come_to : Fun M.K "come_to" "come_to" s_come_to f12 _ := fun_mk (st := s_come_to) l12 c12 k12
  have g_come_to : M.mg "come_to" = some (.ref f12) := PySem.W.mg_of X G a12
  have b_come_to := F_come_to.binds (ps := ["floor", "stand"]) fun _ _ _ _ _ _ us hl => match us, hl with | [_, _], _ => rfl
  have F_way : Fun M.K "way" "way" s_way f13 _ := fun_mk (st := s_way) l13 c13 k13
  have g_way : M.mg "way" = some (.ref f13) := PySem.W.mg_of X G a13
  have b_way := F_way.binds (ps := ["floor", "one", "other"]) fun _ _ _ _ _ _ us hl => match us, hl with | [_, _, _], _ => rfl
  have F_ends : Fun M.K "ends" "ends" s_ends f14 _ := fun_mk (st := s_ends) l14 c14 k14
  have g_ends : M.mg "ends" = some (.ref f14) := PySem.W.mg_of X G a14
  have b_ends := F_ends.binds (ps := ["floor", "stand", "place"]) fun _ _ _ _ _ _ us hl => match us, hl with | [_, _, _], _ => rfl
  have F_firm : Fun M.K "firm" "firm" s_firm f15 _ := fun_mk (st := s_firm) l15 c15 k15
  have g_firm : M.mg "firm" = some (.ref f15) := PySem.W.mg_of X G a15
  have b_firm := F_firm.binds (ps := ["floor", "stand"]) fun _ _ _ _ _ _ us hl => match us, hl with | [_, _], _ => rfl
  have F_turns : Fun M.K "turns" "turns" s_turns f16 _ := fun_mk (st := s_turns) l16 c16 k16
  have g_turns : M.mg "turns" = some (.ref f16) := PySem.W.mg_of X G a16
  have b_turns := F_turns.binds (ps := ["floor", "place"]) fun _ _ _ _ _ _ us hl => match us, hl with | [_, _], _ => rfl
  have F__law_cell_at : Fun M.K "_law_cell_at" "_law_cell_at" s__law_cell_at f17 _ := fun_mk (st := s__law_cell_at) l17 c17 k17
  have g__law_cell_at : M.mg "_law_cell_at" = some (.ref f17) := PySem.W.mg_of X G a17
  have b__law_cell_at := F__law_cell_at.binds (ps := ["script", "k"]) fun _ _ _ _ _ _ us hl => match us, hl with | [_, _], _ => rfl
  have F__law_mix : Fun M.K "_law_mix" "_law_mix" s__law_mix f18 _ := fun_mk (st := s__law_mix) l18 c18 k18
  have g__law_mix : M.mg "_law_mix" = some (.ref f18) := PySem.W.mg_of X G a18
  have b__law_mix := F__law_mix.binds (ps := ["cell", "k"]) fun _ _ _ _ _ _ us hl => match us, hl with | [_, _], _ => rfl
  have F__law_pairs : Fun M.K "_law_pairs" "_law_pairs" s__law_pairs f19 _ := fun_mk (st := s__law_pairs) l19 c19 k19
  have g__law_pairs : M.mg "_law_pairs" = some (.ref f19) := PySem.W.mg_of X G a19
  have b__law_pairs := F__law_pairs.binds (ps := ["lie"]) fun _ _ _ _ _ _ us hl => match us, hl with | [_], _ => rfl
  have F__law_odd : Fun M.K "_law_odd" "_law_odd" s__law_odd f20 _ := fun_mk (st := s__law_odd) l20 c20 k20
  have g__law_odd : M.mg "_law_odd" = some (.ref f20) := PySem.W.mg_of X G a20
  have b__law_odd := F__law_odd.binds (ps := ["row"]) fun _ _ _ _ _ _ us hl => match us, hl with | [_], _ => rfl
  have F__law_is_lie : Fun M.K "_law_is_lie" "_law_is_lie" s__law_is_lie f21 _ := fun_mk (st := s__law_is_lie) l21 c21 k21
  have g__law_is_lie : M.mg "_law_is_lie" = some (.ref f21) := PySem.W.mg_of X G a21
  have b__law_is_lie := F__law_is_lie.binds (ps := ["lie"]) fun _ _ _ _ _ _ us hl => match us, hl with | [_], _ => rfl
  have F__law_lies : Fun M.K "_law_lies" "_law_lies" s__law_lies f22 _ := fun_mk (st := s__law_lies) l22 c22 k22
  have g__law_lies : M.mg "_law_lies" = some (.ref f22) := PySem.W.mg_of X G a22
  have b__law_lies := F__law_lies.binds (ps := []) fun _ _ _ _ _ _ us hl => match us, hl with | [], _ => rfl
  have F__law_floor : Fun M.K "_law_floor" "_law_floor" s__law_floor f23 _ := fun_mk (st := s__law_floor) l23 c23 k23
  have g__law_floor : M.mg "_law_floor" = some (.ref f23) := PySem.W.mg_of X G a23
  have b__law_floor := F__law_floor.binds (ps := ["script", "start", "most"]) fun _ _ _ _ _ _ us hl => match us, hl with | [_, _, _], _ => rfl
  have F__law_cells : Fun M.K "_law_cells" "_law_cells" s__law_cells f24 _ := fun_mk (st := s__law_cells) l24 c24 k24
  have g__law_cells : M.mg "_law_cells" = some (.ref f24) := PySem.W.mg_of X G a24
  have b__law_cells := F__law_cells.binds (ps := ["floor"]) fun _ _ _ _ _ _ us hl => match us, hl with | [_], _ => rfl
  have F__law_refused : Fun M.K "_law_refused" "_law_refused" s__law_refused f25 _ := fun_mk (st := s__law_refused) l25 c25 k25
  have g__law_refused : M.mg "_law_refused" = some (.ref f25) := PySem.W.mg_of X G a25
  have b__law_refused := F__law_refused.binds (ps := ["marks", "which"]) fun _ _ _ _ _ _ us hl => match us, hl with | [_, _], _ => rfl
  have F__law_called : Fun M.K "_law_called" "_law_called" s__law_called f26 _ := fun_mk (st := s__law_called) l26 c26 k26
  have g__law_called : M.mg "_law_called" = some (.ref f26) := PySem.W.mg_of X G a26
  have b__law_called := F__law_called.binds (ps := ["which", "floor", "one", "other"]) fun _ _ _ _ _ _ us hl => match us, hl with | [_, _, _, _], _ => rfl
  have F__law_met : Fun M.K "_law_met" "_law_met" s__law_met f27 _ := fun_mk (st := s__law_met) l27 c27 k27
  have g__law_met : M.mg "_law_met" = some (.ref f27) := PySem.W.mg_of X G a27
  have b__law_met := F__law_met.binds (ps := ["which", "floor", "one", "other"]) fun _ _ _ _ _ _ us hl => match us, hl with | [_, _, _, _], _ => rfl
  have F__law_due : Fun M.K "_law_due" "_law_due" s__law_due f28 _ := fun_mk (st := s__law_due) l28 c28 k28
  have g__law_due : M.mg "_law_due" = some (.ref f28) := PySem.W.mg_of X G a28
  have b__law_due := F__law_due.binds (ps := ["which", "good", "cells", "one", "other"]) fun _ _ _ _ _ _ us hl => match us, hl with | [_, _, _, _, _], _ => rfl
  have F__law_stand : Fun M.K "_law_stand" "_law_stand" s__law_stand f29 _ := fun_mk (st := s__law_stand) l29 c29 k29
  have g__law_stand : M.mg "_law_stand" = some (.ref f29) := PySem.W.mg_of X G a29
  have b__law_stand := F__law_stand.binds (ps := ["floor", "cells", "cell"]) fun _ _ _ _ _ _ us hl => match us, hl with | [_, _, _], _ => rfl
  have F_law : Fun M.K "law" "law" s_law fa _ := fun_mk (st := s_law) l30 c30 k30
  have er : Errs M CD C0 C1 C2 C3 C4 := ⟨PySem.W.mg_of X G gCD, PySem.W.mg_of X G gC0, PySem.W.mg_of X G gC1, PySem.W.mg_of X G gC2, PySem.W.mg_of X G gC3, PySem.W.mg_of X G gC4, h_ValueError, h_isinstance⟩
  have ec_NoFloor : Ec M "NoFloor" C0 := ⟨PySem.W.mg_of X G gC0, xc0, kp0, sb0, ty0⟩
  have ee_NoFloor : Er M CD C0 C1 C2 C3 C4 C0 0 := ⟨⟨ga0, gt0, sb0, hd0, hc0, sN, sT, hm0⟩, PySem.W.exm_ref dB dH dT sD0, kt00, kt01, kt02, kt03, kt04, eV0⟩
  have ec_NoCell : Ec M "NoCell" C1 := ⟨PySem.W.mg_of X G gC1, xc1, kp1, sb1, ty1⟩
  have ee_NoCell : Er M CD C0 C1 C2 C3 C4 C1 1 := ⟨⟨ga1, gt1, sb1, hd1, hc1, sN, sT, hm1⟩, PySem.W.exm_ref dB dH dT sD1, kt10, kt11, kt12, kt13, kt14, eV1⟩
  have ec_NoLie : Ec M "NoLie" C2 := ⟨PySem.W.mg_of X G gC2, xc2, kp2, sb2, ty2⟩
  have ee_NoLie : Er M CD C0 C1 C2 C3 C4 C2 2 := ⟨⟨ga2, gt2, sb2, hd2, hc2, sN, sT, hm2⟩, PySem.W.exm_ref dB dH dT sD2, kt20, kt21, kt22, kt23, kt24, eV2⟩
  have ec_NoRoll : Ec M "NoRoll" C3 := ⟨PySem.W.mg_of X G gC3, xc3, kp3, sb3, ty3⟩
  have ee_NoRoll : Er M CD C0 C1 C2 C3 C4 C3 3 := ⟨⟨ga3, gt3, sb3, hd3, hc3, sN, sT, hm3⟩, PySem.W.exm_ref dB dH dT sD3, kt30, kt31, kt32, kt33, kt34, eV3⟩
  have ec_NoWay : Ec M "NoWay" C4 := ⟨PySem.W.mg_of X G gC4, xc4, kp4, sb4, ty4⟩
  have ee_NoWay : Er M CD C0 C1 C2 C3 C4 C4 4 := ⟨⟨ga4, gt4, sb4, hd4, hc4, sN, sT, hm4⟩, PySem.W.exm_ref dB dH dT sD4, kt40, kt41, kt42, kt43, kt44, eV4⟩
  have h_FIRST : Gc M "FIRST" (.tuple ([1, 2, 3].map PyData.int)) := gc_ints (h := h) [1, 2, 3] (PySem.W.mg_of X G nFIRST) mFIRST (.cons ⟨tFIRST0, rfl⟩ (.cons ⟨tFIRST1, rfl⟩ (.cons ⟨tFIRST2, rfl⟩ (.nil)))) (Nat.le_trans (Nat.le_of_ble_eq_true rfl : _ ≤ 100) (by decide))
  have h_PAIRS : Gc M "PAIRS" (.tuple ([0, 1, 2, 3, 3, 2, 1].map PyData.int)) := gc_ints (h := h) [0, 1, 2, 3, 3, 2, 1] (PySem.W.mg_of X G nPAIRS) mPAIRS (.cons ⟨tPAIRS0, rfl⟩ (.cons ⟨tPAIRS1, rfl⟩ (.cons ⟨tPAIRS2, rfl⟩ (.cons ⟨tPAIRS3, rfl⟩ (.cons ⟨tPAIRS4, rfl⟩ (.cons ⟨tPAIRS5, rfl⟩ (.cons ⟨tPAIRS6, rfl⟩ (.nil)))))))) (Nat.le_trans (Nat.le_of_ble_eq_true rfl : _ ≤ 100) (by decide))
  have h_ROLLS : Gc M "ROLLS" (.str "ensw") := ⟨.str "ensw", _, PySem.W.mg_of X G nROLLS, ⟨_, rfl⟩, fun F => .str _⟩
  have h_MOST : Gc M "MOST" (.int 8) := ⟨.int 8, _, PySem.W.mg_of X G nMOST, ⟨_, rfl⟩, fun F => .int _⟩
  have steps : Steps M := steps_mk (PySem.W.mg_of X G nST0) lST qST zST lPn lPe lPs lPw
  have cP : Fc M CX0 "pairs_of" 1 (spG M.K rPairs) := fc_pairs_of F_pairs_of g_pairs_of b_pairs_of h_PAIRS
  have cD : Fc M CX0 "disorder" 1 (spG M.K rDis) := fc_disorder F_disorder g_disorder b_disorder h_len h_range
  have cI : Fc M CX0 "is_lie" 2 (spG M.K rIsLie) := fc_is_lie F_is_lie g_is_lie b_is_lie h_len h_sorted cP cD
  have cMu : Fc M (L2.CX M.P M.w) "must_be_lie" 3 (spG M.K (rMust C2)) := fc_must_be_lie F_must_be_lie g_must_be_lie b_must_be_lie ec_NoLie cI
  have cBy : Fc M CX0 "rolled_by" 1 (spG M.K rRoll) := fc_rolled_by F_rolled_by g_rolled_by b_rolled_by
  have cMf : Fc M (L2.CX M.P M.w) "must_be_floor" 1 (spG M.K (rMustF C0)) := fc_must_be_floor F_must_be_floor g_must_be_floor b_must_be_floor h_len h_MOST ec_NoFloor
  have cIc : Fc M CX0 "is_cell" 1 (spG M.K rIsCell) := fc_is_cell F_is_cell g_is_cell b_is_cell h_len
  have cMc : Fc M (L2.CX M.P M.w) "must_be_cell" 2 (spG M.K (rMustC C1)) := fc_must_be_cell F_must_be_cell g_must_be_cell b_must_be_cell ec_NoCell cIc
  have cMs : Fc M (L2.CX M.P M.w) "must_be_stand" 4 (spG M.K (rMustS C1 C2)) := fc_must_be_stand F_must_be_stand g_must_be_stand b_must_be_stand cMc cMu
  have cNs : Fc M CX0 "next_stand" 2 (spG M.K rNext) := fc_next_stand F_next_stand g_next_stand b_next_stand steps cIc cBy
  have cWa : Fc M (L2.CX M.P M.w) "walked" 5 (spG M.K (rWalked C0 C1 C2 C3)) := fc_walked F_walked g_walked b_walked steps ec_NoRoll cMf cMs cNs
  have cDi : Fc M CX0 "distances" 3 (spG M.K (rDistances M.w)) := fc_distances F_distances g_distances b_distances h_len h_ROLLS cNs
  have cCo : Fc M (L2.CX M.P M.w) "come_to" 5 (spG M.K (rCome M.w C0 C1 C2)) := fc_come_to F_come_to g_come_to b_come_to cMf cMs cDi
  have cWy : Fc M (L2.CX M.P M.w) "way" 5 (spG M.K (rWay C0 C1 C2 C4)) := fc_way F_way g_way b_way h_ROLLS ec_NoWay cMf cMs cNs cDi
  have cEn : Fc M (L2.CX M.P M.w) "ends" 5 (spG M.K (rEnds C0 C1 C2)) := fc_ends F_ends g_ends b_ends h_sorted cMf cMs cMc cDi
  have cFi : Fc M (L2.CX M.P M.w) "firm" 5 (spG M.K (rFirm C0 C1 C2)) := fc_firm F_firm g_firm b_firm h_len h_set h_sorted cMf cMs cDi
  have cTu : Fc M (L2.CX M.P M.w) "turns" 6 (spG M.K (rTurns C0 C1)) := fc_turns F_turns g_turns b_turns h_FIRST cMf cMc cEn
  have cP2 : Fc M CX0 "_law_pairs" 1 (spG M.K rPairs) := fc_law_pairs F__law_pairs g__law_pairs b__law_pairs
  have cO : Fc M CX0 "_law_odd" 1 (spG M.K rDis) := fc_law_odd F__law_odd g__law_odd b__law_odd h_len h_range
  have cJ : Fc M CX0 "_law_is_lie" 2 (spG M.K rIsLie) := fc_law_is_lie F__law_is_lie g__law_is_lie b__law_is_lie h_len h_sorted cP2 cO
  have cQ : Fc M CX0 "_law_lies" 3 (spG M.K rLies) := fc_law_lies F__law_lies g__law_lies b__law_lies h_range cJ
  have cC : Fc M CX0 "_law_cell_at" 1 (spG M.K rCell) := fc_cell_at F__law_cell_at g__law_cell_at b__law_cell_at h_len
  have cM : Fc M CX0 "_law_mix" 1 (spG M.K rMix) := fc_mix F__law_mix g__law_mix b__law_mix
  have cFl : Fc M CX0 "_law_floor" 2 (spG M.K rFloor) := fc_law_floor F__law_floor g__law_floor b__law_floor h_range h_int cC cM
  have cCe : Fc M CX0 "_law_cells" 1 (spG M.K rCells) := fc_law_cells F__law_cells g__law_cells b__law_cells h_range h_len
  have cF : Fc M CX0 "_law_refused" 1 (spG M.K rRefused) := fc_refused F__law_refused g__law_refused b__law_refused h_range
  have cCa : Fc M (L2.CX M.P M.w) "_law_called" 7 (spG M.K (rCalled C0 C1 C2 C4)) := fc_called F__law_called g__law_called b__law_called cCo cWy cEn cFi cWa cTu
  have cMe : Fc M CX0 "_law_met" 8 (spG M.K rMet) := fc_met F__law_met g__law_met b__law_met er ee_NoFloor ee_NoCell ee_NoLie ee_NoWay cCa
  have cDu : Fc M CX0 "_law_due" 3 (spG M.K rDue12) := fc_due12 F__law_due g__law_due b__law_due cJ
  have cSt : Fc M CX0 "_law_stand" 4 (spG M.K rStand12) := fc_stand12 F__law_stand g__law_stand b__law_stand h_len cQ
  exact ok_law F_law h_range cC cF cFl cCe cSt cDu cMe
theorem walk {l : PySem.W.OpenLaw} {q : Program} {loose : List Str} {XP : (Str → Option Value) → Heap → Prop} {YP : World → Heap → Prop} {d : DefRec} {K : Params → PySem.W.Frag} (hn : l.most = some 63) (hdf : d.params.defaults = [])
    (hY : ∀ (w : World) (h : Heap), YP w h → (K w.params).In h)
    (F : ∀ (w : World) (mg : Str → Option Value) (fa : Addr) (h : Heap), (K w.params).In h → h.Ns mainGlobals mg → mg d.name = some (.ref fa) →
      ∃ fd : FuncData, (∀ (s : Shared) (u : Value), BindsTo s fd ⟨[u], []⟩ [("script", u)]) ∧ ∀ base : Heap, (K w.params).In base → base.Ns mainGlobals mg → FnOk l.prog w (K w.params) mg base CX0 9 fa fd ["script"] (spG (K w.params) rLaw)) :
    PySem.W.WalkO q loose XP YP l.row.toRowW d [] (fun f vs => PySem.call f vs) :=
  L2.walk_of (n := 63) (k := 9) (x := "script") (CX := fun _ => CX0) (sp := fun w => spG (K w.params) rLaw) hn (by decide) hdf ⟨rfl, by decide, by decide⟩ hY F
    (fun w H a ns hl _ hS => ⟨H, [scr ns], .val (.bool true), Same.refl H, .cons (.scr hS) .nil, ⟨ns, hl, rfl, rfl⟩, fun v F' H' g r => by cases r; rfl⟩) fun _ _ _ _ _ z => z
end Roll
open PySem PySem.W PyProof.Rows
set_option maxRecDepth 100000 in
set_option maxHeartbeats 0 in
theorem PySem.Challenge.cw_rolldie_k12_refused_first_holds : PySem.Challenge.rw_rolldie_k12_refused_first.Holds := by
  w_on; o_law; k_head; (case hw => w_witness2)
  k_fill
  refine Roll.walk (l := PySem.Challenge.rw_rolldie_k12_refused_first) rfl rfl (fun w h Y => PySem.W.kIn_of Y) ?F
  case F =>
    intro w mg fa h KX G hmg
    refine' Roll.all_mk KX G hmg ?a0 ?l0 ?c0 ?k0 ?a1 ?l1 ?c1 ?k1 ?a2 ?l2 ?c2 ?k2 ?a3 ?l3 ?c3 ?k3 ?a4 ?l4 ?c4 ?k4 ?a5 ?l5 ?c5 ?k5 ?a6 ?l6 ?c6 ?k6 ?a7 ?l7 ?c7 ?k7 ?a8 ?l8 ?c8 ?k8 ?a9 ?l9 ?c9 ?k9 ?a10 ?l10 ?c10 ?k10 ?a11 ?l11 ?c11 ?k11 ?a12 ?l12 ?c12 ?k12 ?a13 ?l13 ?c13 ?k13 ?a14 ?l14 ?c14 ?k14 ?a15 ?l15 ?c15 ?k15 ?a16 ?l16 ?c16 ?k16 ?a17 ?l17 ?c17 ?k17 ?a18 ?l18 ?c18 ?k18 ?a19 ?l19 ?c19 ?k19 ?a20 ?l20 ?c20 ?k20 ?a21 ?l21 ?c21 ?k21 ?a22 ?l22 ?c22 ?k22 ?a23 ?l23 ?c23 ?k23 ?a24 ?l24 ?c24 ?k24 ?a25 ?l25 ?c25 ?k25 ?a26 ?l26 ?c26 ?k26 ?a27 ?l27 ?c27 ?k27 ?a28 ?l28 ?c28 ?k28 ?a29 ?l29 ?c29 ?k29 ?a30 ?l30 ?c30 ?k30 ?gCD ?gC0 ?gC1 ?gC2 ?gC3 ?gC4 ?dB ?dH ?dT ?sN ?sT ?xc0 ?kp0 ?sb0 ?ty0 ?ga0 ?gt0 ?hd0 ?hc0 ?hm0 ?sD0 ?eV0 ?kt00 ?kt01 ?kt02 ?kt03 ?kt04 ?xc1 ?kp1 ?sb1 ?ty1 ?ga1 ?gt1 ?hd1 ?hc1 ?hm1 ?sD1 ?eV1 ?kt10 ?kt11 ?kt12 ?kt13 ?kt14 ?xc2 ?kp2 ?sb2 ?ty2 ?ga2 ?gt2 ?hd2 ?hc2 ?hm2 ?sD2 ?eV2 ?kt20 ?kt21 ?kt22 ?kt23 ?kt24 ?xc3 ?kp3 ?sb3 ?ty3 ?ga3 ?gt3 ?hd3 ?hc3 ?hm3 ?sD3 ?eV3 ?kt30 ?kt31 ?kt32 ?kt33 ?kt34 ?xc4 ?kp4 ?sb4 ?ty4 ?ga4 ?gt4 ?hd4 ?hc4 ?hm4 ?sD4 ?eV4 ?kt40 ?kt41 ?kt42 ?kt43 ?kt44 ?nFIRST ?mFIRST ?nPAIRS ?mPAIRS ?nROLLS ?nMOST ?nST0 ?lST ?lPn ?lPe ?lPs ?lPw ?qST ?zST ?zlen ?zrange ?zsorted ?zisinstance ?zint ?zset ?zValueError
    (case a0 => first | k_is | rfl)
    (case l0 => first | k_is | rfl)
    (case c0 => first | k_is | rfl)
    (case k0 => first | k_is | rfl)
    (case a1 => first | k_is | rfl)
    (case l1 => first | k_is | rfl)
    (case c1 => first | k_is | rfl)
    (case k1 => first | k_is | rfl)
    (case a2 => first | k_is | rfl)
    (case l2 => first | k_is | rfl)
    (case c2 => first | k_is | rfl)
    (case k2 => first | k_is | rfl)
    (case a3 => first | k_is | rfl)
    (case l3 => first | k_is | rfl)
    (case c3 => first | k_is | rfl)
    (case k3 => first | k_is | rfl)
    (case a4 => first | k_is | rfl)
    (case l4 => first | k_is | rfl)
    (case c4 => first | k_is | rfl)
    (case k4 => first | k_is | rfl)
    (case a5 => first | k_is | rfl)
    (case l5 => first | k_is | rfl)
    (case c5 => first | k_is | rfl)
    (case k5 => first | k_is | rfl)
    (case a6 => first | k_is | rfl)
    (case l6 => first | k_is | rfl)
    (case c6 => first | k_is | rfl)
    (case k6 => first | k_is | rfl)
    (case a7 => first | k_is | rfl)
    (case l7 => first | k_is | rfl)
    (case c7 => first | k_is | rfl)
    (case k7 => first | k_is | rfl)
    (case a8 => first | k_is | rfl)
    (case l8 => first | k_is | rfl)
    (case c8 => first | k_is | rfl)
    (case k8 => first | k_is | rfl)
    (case a9 => first | k_is | rfl)
    (case l9 => first | k_is | rfl)
    (case c9 => first | k_is | rfl)
    (case k9 => first | k_is | rfl)
    (case a10 => first | k_is | rfl)
    (case l10 => first | k_is | rfl)
    (case c10 => first | k_is | rfl)
    (case k10 => first | k_is | rfl)
    (case a11 => first | k_is | rfl)
    (case l11 => first | k_is | rfl)
    (case c11 => first | k_is | rfl)
    (case k11 => first | k_is | rfl)
    (case a12 => first | k_is | rfl)
    (case l12 => first | k_is | rfl)
    (case c12 => first | k_is | rfl)
    (case k12 => first | k_is | rfl)
    (case a13 => first | k_is | rfl)
    (case l13 => first | k_is | rfl)
    (case c13 => first | k_is | rfl)
    (case k13 => first | k_is | rfl)
    (case a14 => first | k_is | rfl)
    (case l14 => first | k_is | rfl)
    (case c14 => first | k_is | rfl)
    (case k14 => first | k_is | rfl)
    (case a15 => first | k_is | rfl)
    (case l15 => first | k_is | rfl)
    (case c15 => first | k_is | rfl)
    (case k15 => first | k_is | rfl)
    (case a16 => first | k_is | rfl)
    (case l16 => first | k_is | rfl)
    (case c16 => first | k_is | rfl)
    (case k16 => first | k_is | rfl)
    (case a17 => first | k_is | rfl)
    (case l17 => first | k_is | rfl)
    (case c17 => first | k_is | rfl)
    (case k17 => first | k_is | rfl)
    (case a18 => first | k_is | rfl)
    (case l18 => first | k_is | rfl)
    (case c18 => first | k_is | rfl)
    (case k18 => first | k_is | rfl)
    (case a19 => first | k_is | rfl)
    (case l19 => first | k_is | rfl)
    (case c19 => first | k_is | rfl)
    (case k19 => first | k_is | rfl)
    (case a20 => first | k_is | rfl)
    (case l20 => first | k_is | rfl)
    (case c20 => first | k_is | rfl)
    (case k20 => first | k_is | rfl)
    (case a21 => first | k_is | rfl)
    (case l21 => first | k_is | rfl)
    (case c21 => first | k_is | rfl)
    (case k21 => first | k_is | rfl)
    (case a22 => first | k_is | rfl)
    (case l22 => first | k_is | rfl)
    (case c22 => first | k_is | rfl)
    (case k22 => first | k_is | rfl)
    (case a23 => first | k_is | rfl)
    (case l23 => first | k_is | rfl)
    (case c23 => first | k_is | rfl)
    (case k23 => first | k_is | rfl)
    (case a24 => first | k_is | rfl)
    (case l24 => first | k_is | rfl)
    (case c24 => first | k_is | rfl)
    (case k24 => first | k_is | rfl)
    (case a25 => first | k_is | rfl)
    (case l25 => first | k_is | rfl)
    (case c25 => first | k_is | rfl)
    (case k25 => first | k_is | rfl)
    (case a26 => first | k_is | rfl)
    (case l26 => first | k_is | rfl)
    (case c26 => first | k_is | rfl)
    (case k26 => first | k_is | rfl)
    (case a27 => first | k_is | rfl)
    (case l27 => first | k_is | rfl)
    (case c27 => first | k_is | rfl)
    (case k27 => first | k_is | rfl)
    (case a28 => first | k_is | rfl)
    (case l28 => first | k_is | rfl)
    (case c28 => first | k_is | rfl)
    (case k28 => first | k_is | rfl)
    (case a29 => first | k_is | rfl)
    (case l29 => first | k_is | rfl)
    (case c29 => first | k_is | rfl)
    (case k29 => first | k_is | rfl)
    (case a30 => first | k_is | rfl)
    (case l30 => first | k_is | rfl)
    (case c30 => first | k_is | rfl)
    (case k30 => first | k_is | rfl)
    (case gCD => first | k_is | rfl)
    (case gC0 => first | k_is | rfl)
    (case gC1 => first | k_is | rfl)
    (case gC2 => first | k_is | rfl)
    (case gC3 => first | k_is | rfl)
    (case gC4 => first | k_is | rfl)
    (case dB => first | k_is | rfl)
    (case dH => first | k_is | rfl)
    (case dT => first | k_is | rfl)
    (case sN => first | k_is | rfl)
    (case sT => first | k_is | rfl)
    (case xc0 => first | k_exc | k_is | rfl)
    (case kp0 => first | k_is | rfl)
    (case sb0 => first | k_is | rfl)
    (case ty0 => first | k_is | rfl)
    (case ga0 => first | k_is | rfl)
    (case gt0 => first | k_is | rfl)
    (case hd0 => first | k_is | rfl)
    (case hc0 => first | k_is | rfl)
    (case hm0 => first | k_is | rfl)
    (case sD0 => first | k_is | rfl)
    (case eV0 => first | k_is | rfl)
    (case kt00 => first | k_is | rfl)
    (case kt01 => first | k_is | rfl)
    (case kt02 => first | k_is | rfl)
    (case kt03 => first | k_is | rfl)
    (case kt04 => first | k_is | rfl)
    (case xc1 => first | k_exc | k_is | rfl)
    (case kp1 => first | k_is | rfl)
    (case sb1 => first | k_is | rfl)
    (case ty1 => first | k_is | rfl)
    (case ga1 => first | k_is | rfl)
    (case gt1 => first | k_is | rfl)
    (case hd1 => first | k_is | rfl)
    (case hc1 => first | k_is | rfl)
    (case hm1 => first | k_is | rfl)
    (case sD1 => first | k_is | rfl)
    (case eV1 => first | k_is | rfl)
    (case kt10 => first | k_is | rfl)
    (case kt11 => first | k_is | rfl)
    (case kt12 => first | k_is | rfl)
    (case kt13 => first | k_is | rfl)
    (case kt14 => first | k_is | rfl)
    (case xc2 => first | k_exc | k_is | rfl)
    (case kp2 => first | k_is | rfl)
    (case sb2 => first | k_is | rfl)
    (case ty2 => first | k_is | rfl)
    (case ga2 => first | k_is | rfl)
    (case gt2 => first | k_is | rfl)
    (case hd2 => first | k_is | rfl)
    (case hc2 => first | k_is | rfl)
    (case hm2 => first | k_is | rfl)
    (case sD2 => first | k_is | rfl)
    (case eV2 => first | k_is | rfl)
    (case kt20 => first | k_is | rfl)
    (case kt21 => first | k_is | rfl)
    (case kt22 => first | k_is | rfl)
    (case kt23 => first | k_is | rfl)
    (case kt24 => first | k_is | rfl)
    (case xc3 => first | k_exc | k_is | rfl)
    (case kp3 => first | k_is | rfl)
    (case sb3 => first | k_is | rfl)
    (case ty3 => first | k_is | rfl)
    (case ga3 => first | k_is | rfl)
    (case gt3 => first | k_is | rfl)
    (case hd3 => first | k_is | rfl)
    (case hc3 => first | k_is | rfl)
    (case hm3 => first | k_is | rfl)
    (case sD3 => first | k_is | rfl)
    (case eV3 => first | k_is | rfl)
    (case kt30 => first | k_is | rfl)
    (case kt31 => first | k_is | rfl)
    (case kt32 => first | k_is | rfl)
    (case kt33 => first | k_is | rfl)
    (case kt34 => first | k_is | rfl)
    (case xc4 => first | k_exc | k_is | rfl)
    (case kp4 => first | k_is | rfl)
    (case sb4 => first | k_is | rfl)
    (case ty4 => first | k_is | rfl)
    (case ga4 => first | k_is | rfl)
    (case gt4 => first | k_is | rfl)
    (case hd4 => first | k_is | rfl)
    (case hc4 => first | k_is | rfl)
    (case hm4 => first | k_is | rfl)
    (case sD4 => first | k_is | rfl)
    (case eV4 => first | k_is | rfl)
    (case kt40 => first | k_is | rfl)
    (case kt41 => first | k_is | rfl)
    (case kt42 => first | k_is | rfl)
    (case kt43 => first | k_is | rfl)
    (case kt44 => first | k_is | rfl)
    (case nFIRST => first | k_is | rfl)
    (case mFIRST => first | k_is | rfl)
    (case nPAIRS => first | k_is | rfl)
    (case mPAIRS => first | k_is | rfl)
    (case nROLLS => first | k_is | rfl)
    (case nMOST => first | k_is | rfl)
    (case nST0 => first | k_is | rfl)
    (case lST => first | k_is | rfl)
    (case lPn => first | k_is | rfl)
    (case lPe => first | k_is | rfl)
    (case lPs => first | k_is | rfl)
    (case lPw => first | k_is | rfl)
    (case qST => k_keys)
    (case zST => first | k_is | rfl)
    (case zlen => first | k_is | rfl)
    (case zrange => first | k_is | rfl)
    (case zsorted => first | k_is | rfl)
    (case zisinstance => first | k_is | rfl)
    (case zint => first | k_is | rfl)
    (case zset => first | k_is | rfl)
    (case zValueError => first | k_is | rfl)

