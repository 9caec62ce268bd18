import PyProof.Rows.All
import Wide.All
import OpenK.AllK
import Wide.FinOn
import HandS.ForMost
import HandS.Defaults
import HandS.Wide
import HandS.WideBits
import HandS.IsInst
import HandS.TupAny
import HandS.TupMul
import HandS.Flow
import PyProof.ConsumeWalk
import PyProof.WalksMore
import HandS.Zip0
import HandS.Zip
import HandS.Comp
import HandS.Iter
import HandS.NoneIn
import HandS.Codes
import HandS.Dict
import HandS.Star
import PySem.Challenge.RW_glueforms_k11_main_whole_worths_and_pair
import KE.KStateDown
import Lean
import HandS.Ends
import HandS.More
import HandS.Words
import HandS.WordsExc
import HandS.Head0
import HandS.Head1
import HandS.Head2
import HandS.HeadEnd
import HandS.HeadHook1
import HandS.HeadHook2
set_option Elab.async false
set_option linter.all false
set_option maxRecDepth 100000
set_option maxHeartbeats 1000000
/-! DX, part a: plain data over the abstract heap; predicate transformers over plain data; that they are sound. -/
namespace DX
open PySem PySem.Spec PyProof.Rows L2

/-- plain data: tuples are values, what may change is an index into the store -/
inductive D where
  | non | bl (b : Bool) | int (i : Int) | str (x : Str) | tup (xs : List D) | rol (xs : List D) | ref (n : Nat) | fn (x : Str) | ty (n : String)
  deriving Inhabited
/-- a thing of the store -/
inductive O where
  | lst (xs : List D) | ins (C : Str) (fs : List (Str × D)) | dic (kvs : List (D × D))
abbrev Sto := List O
abbrev Ev := List (Option D)

/-- a list that is only read: locked, or of the written part -/
def SqR (K : PySem.W.Frag) (H : Hp) (a : Addr) (xs : List V) : Prop :=
  (∃ o, H a = some (.frz o (.lst xs))) ∨
    ∃ (o : Obj) (its : Array Value) (n : Nat), K.lookup a = some o ∧ o.cls = .type "list" ∧ o.dict = none ∧ o.data = .seq its n ∧ its.size ≤ sizeLine ∧ Vals xs its.toList
theorem SqR.sql {K : PySem.W.Frag} {H : Hp} {a : Addr} {xs : List V} (h : SqR K H a xs) : SqL K H a xs := by
  rcases h with ⟨o, h⟩ | h
  · exact .inl (.inr ⟨o, h⟩)
  · exact .inr h
/-- a tuple: tracked, or of the written part -/
def SqU (K : PySem.W.Frag) (H : Hp) (a : Addr) (xs : List V) : Prop :=
  H a = some (.tup xs) ∨
    ∃ (o : Obj) (its : Array Value) (n : Nat), K.lookup a = some o ∧ o.cls = .type "tuple" ∧ o.data = .seq its n ∧ its.size ≤ sizeLine ∧ Vals xs its.toList
theorem SqU.sqt {K : PySem.W.Frag} {H : Hp} {a : Addr} {xs : List V} (h : SqU K H a xs) : SqT K H a xs := by
  rcases h with h | h
  · exact .of h
  · exact .inr h
section
variable (K : PySem.W.Frag) (mg : Str → Option Value) (μ : List Addr) (H : Hp)
mutual
inductive Rv : V → D → Prop
  | non : Rv .non .non
  | bl (b : Bool) : Rv (.bl b) (.bl b)
  | int (i : Int) : Rv (.int i) (.int i)
  | str (x : Str) : Rv (.str x) (.str x)
  | tup {a : Addr} {xs : List V} {ds : List D} : SqU K H a xs → Rvs xs ds → Rv (.ref a) (.tup ds)
  | rol {a : Addr} {xs : List V} {ds : List D} : SqR K H a xs → Rvs xs ds → Rv (.ref a) (.rol ds)
  | ref {a : Addr} {n : Nat} : μ[n]? = some a → Rv (.ref a) (.ref n)
  | fn {a : Addr} {x : Str} : mg x = some (.ref a) → Rv (.ref a) (.fn x)
  | ty (n : String) : Rv (.ty n) (.ty n)
inductive Rvs : List V → List D → Prop
  | nil : Rvs [] []
  | cons {v : V} {d : D} {vs : List V} {ds : List D} : Rv v d → Rvs vs ds → Rvs (v :: vs) (d :: ds)
end
/-- fields of an instance -/
inductive Rfs : List (Str × V) → List (Str × D) → Prop
  | nil : Rfs [] []
  | cons {x : Str} {v : V} {d : D} {vs : List (Str × V)} {ds : List (Str × D)} : Rv K mg μ H v d → Rfs vs ds → Rfs ((x, v) :: vs) ((x, d) :: ds)
/-- a key of a dict: plain ones -/
def kOf : D → Option Key
  | .int i => some (.inl i)
  | .str x => some (.inr x)
  | _ => none
inductive Rkv : List (Key × V) → List (D × D) → Prop
  | nil : Rkv [] []
  | cons {k : Key} {dk : D} {v : V} {d : D} {vs : List (Key × V)} {ds : List (D × D)} : kOf dk = some k → Rv K mg μ H v d → Rkv vs ds → Rkv ((k, v) :: vs) ((dk, d) :: ds)
def RO (a : Addr) : O → Prop
  | .lst ds => ∃ xs, H a = some (.lst xs) ∧ Rvs K mg μ H xs ds
  | .ins C fs => ∃ Ca dx vs, mg C = some (.ref Ca) ∧ H a = some (.ins Ca dx vs) ∧ Rfs K mg μ H vs fs
  | .dic kvs => ∃ xs, H a = some (.dK xs) ∧ Rkv K mg μ H xs kvs
/-- the store is held -/
structure RS (st : Sto) : Prop where
  len : μ.length = st.length
  nd : μ.Nodup
  at_ : ∀ (n : Nat) (a : Addr) (o : O), μ[n]? = some a → st[n]? = some o → RO K mg μ H a o
/-- the slots are held -/
structure RE (σ : L2.St) (env : Ev) : Prop where
  len : σ.length = env.length
  at_ : ∀ (i : Nat) (d : D), env[i]? = some (some d) → ∃ v, σ[i]? = some (some v) ∧ Rv K mg μ H v d
end

/-- what a step keeps -/
structure Stp (μ : List Addr) (H : Hp) (μ' : List Addr) (H' : Hp) : Prop where
  ext : ∃ l, μ' = μ ++ l
  tup : ∀ a xs, H a = some (.tup xs) → H' a = some (.tup xs)
  frz : ∀ a o u, H a = some (.frz o u) → H' a = some (.frz o u)

section
variable {K : PySem.W.Frag} {mg : Str → Option Value} {μ μ' μ'' : List Addr} {H H' H'' : Hp}
theorem Stp.refl : Stp μ H μ H := ⟨⟨[], by simp⟩, fun _ _ h => h, fun _ _ _ h => h⟩
theorem Stp.trans (a : Stp μ H μ' H') (b : Stp μ' H' μ'' H'') : Stp μ H μ'' H'' := by
  obtain ⟨⟨l, rfl⟩, t1, f1⟩ := a
  obtain ⟨⟨l', rfl⟩, t2, f2⟩ := b
  exact ⟨⟨l ++ l', by simp⟩, fun a xs h => t2 a xs (t1 a xs h), fun a o u h => f2 a o u (f1 a o u h)⟩
theorem Stp.get (s : Stp μ H μ' H') {n : Nat} {a : Addr} (h : μ[n]? = some a) : μ'[n]? = some a := by
  obtain ⟨⟨l, rfl⟩, _, _⟩ := s
  obtain ⟨hn, e⟩ := List.getElem?_eq_some_iff.mp h
  rw [List.getElem?_append_left hn]
  exact h
theorem Stp.sqt (s : Stp μ H μ' H') {a : Addr} {xs : List V} (h : SqU K H a xs) : SqU K H' a xs := by
  rcases h with h | h
  · exact .inl (s.tup _ _ h)
  · exact .inr h
theorem Stp.sqr (s : Stp μ H μ' H') {a : Addr} {xs : List V} (h : SqR K H a xs) : SqR K H' a xs := by
  rcases h with ⟨o, h⟩ | h
  · exact .inl ⟨o, s.frz _ _ _ h⟩
  · exact .inr h
mutual
theorem Rv.step (s : Stp μ H μ' H') : ∀ {v : V} {d : D}, Rv K mg μ H v d → Rv K mg μ' H' v d
  | _, _, .non => .non
  | _, _, .bl b => .bl b
  | _, _, .int i => .int i
  | _, _, .str x => .str x
  | _, _, .tup h r => .tup (s.sqt h) (Rvs.step s r)
  | _, _, .rol h r => .rol (s.sqr h) (Rvs.step s r)
  | _, _, .ref h => .ref (s.get h)
  | _, _, .fn h => .fn h
  | _, _, .ty n => .ty n
theorem Rvs.step (s : Stp μ H μ' H') : ∀ {vs : List V} {ds : List D}, Rvs K mg μ H vs ds → Rvs K mg μ' H' vs ds
  | _, _, .nil => .nil
  | _, _, .cons r t => .cons (Rv.step s r) (Rvs.step s t)
end
theorem Rfs.step (s : Stp μ H μ' H') : ∀ {vs : List (Str × V)} {ds : List (Str × D)}, Rfs K mg μ H vs ds → Rfs K mg μ' H' vs ds
  | _, _, .nil => .nil
  | _, _, .cons r t => .cons (r.step s) (Rfs.step s t)
theorem Rkv.step (s : Stp μ H μ' H') : ∀ {vs : List (Key × V)} {ds : List (D × D)}, Rkv K mg μ H vs ds → Rkv K mg μ' H' vs ds
  | _, _, .nil => .nil
  | _, _, .cons e r t => .cons e (r.step s) (Rkv.step s t)
theorem RE.step {σ : L2.St} {env : Ev} (r : RE K mg μ H σ env) (s : Stp μ H μ' H') : RE K mg μ' H' σ env :=
  ⟨r.len, fun i d h => let ⟨v, e, q⟩ := r.at_ i d h; ⟨v, e, q.step s⟩⟩
theorem Rvs.length : ∀ {vs : List V} {ds : List D}, Rvs K mg μ H vs ds → vs.length = ds.length
  | _, _, .nil => rfl
  | _, _, .cons _ t => congrArg Nat.succ (Rvs.length t)
theorem Rvs.get : ∀ {vs : List V} {ds : List D} {i : Nat} {d : D}, Rvs K mg μ H vs ds → ds[i]? = some d → ∃ v, vs[i]? = some v ∧ Rv K mg μ H v d
  | _, _, _, _, .nil, e => by simp at e
  | _, _, 0, _, .cons r _, e => by simp at e; subst e; exact ⟨_, rfl, r⟩
  | _, _, i + 1, _, .cons _ t, e => by
    obtain ⟨v, h1, h2⟩ := Rvs.get (i := i) t (by simpa using e)
    exact ⟨v, by simpa using h1, h2⟩
theorem Rvs.getV : ∀ {vs : List V} {ds : List D} {i : Nat} {v : V}, Rvs K mg μ H vs ds → vs[i]? = some v → ∃ d, ds[i]? = some d ∧ Rv K mg μ H v d
  | _, _, _, _, .nil, e => by simp at e
  | _, _, 0, _, .cons r _, e => by simp at e; subst e; exact ⟨_, rfl, r⟩
  | _, _, i + 1, _, .cons _ t, e => by
    obtain ⟨v, h1, h2⟩ := Rvs.getV (i := i) t (by simpa using e)
    exact ⟨v, by simpa using h1, h2⟩
theorem Rvs.append : ∀ {vs ws : List V} {ds es : List D}, Rvs K mg μ H vs ds → Rvs K mg μ H ws es → Rvs K mg μ H (vs ++ ws) (ds ++ es)
  | _, _, _, _, .nil, s => s
  | _, _, _, _, .cons r t, s => .cons r (Rvs.append t s)
theorem Rvs.take : ∀ {vs : List V} {ds : List D} (n : Nat), Rvs K mg μ H vs ds → Rvs K mg μ H (vs.take n) (ds.take n)
  | _, _, 0, _ => by simpa using Rvs.nil
  | _, _, _ + 1, .nil => .nil
  | _, _, n + 1, .cons r t => .cons r (Rvs.take n t)
theorem Rvs.drop : ∀ {vs : List V} {ds : List D} (n : Nat), Rvs K mg μ H vs ds → Rvs K mg μ H (vs.drop n) (ds.drop n)
  | _, _, 0, r => r
  | _, _, _ + 1, .nil => .nil
  | _, _, n + 1, .cons _ t => by simpa using Rvs.drop n t
theorem Rvs.set {v : V} {d : D} (r : Rv K mg μ H v d) : ∀ {vs : List V} {ds : List D} (i : Nat), Rvs K mg μ H vs ds → Rvs K mg μ H (vs.set i v) (ds.set i d)
  | _, _, _, .nil => .nil
  | _, _, 0, .cons _ t => .cons r t
  | _, _, i + 1, .cons q t => .cons q (Rvs.set r i t)
theorem Rvs.rep {vs : List V} {ds : List D} (h : Rvs K mg μ H vs ds) : ∀ k : Nat, Rvs K mg μ H (List.replicate k vs).flatten (List.replicate k ds).flatten
  | 0 => .nil
  | k + 1 => by rw [List.replicate_succ, List.replicate_succ, List.flatten_cons, List.flatten_cons]; exact h.append (Rvs.rep h k)
theorem Rvs.reverse : ∀ {vs : List V} {ds : List D}, Rvs K mg μ H vs ds → Rvs K mg μ H vs.reverse ds.reverse
  | _, _, .nil => .nil
  | _, _, .cons r t => by rw [List.reverse_cons, List.reverse_cons]; exact (Rvs.reverse t).append (.cons r .nil)
theorem RE.set {σ : L2.St} {env : Ev} {v : V} {d : D} (r : RE K mg μ H σ env) (i : Nat) (q : Rv K mg μ H v d) : RE K mg μ H (σ.set i (some v)) (env.set i (some d)) := by
  refine ⟨by simpa using r.len, fun j e h => ?_⟩
  by_cases hj : i = j
  · subst hj
    by_cases hl : i < env.length
    · rw [List.getElem?_set_self hl] at h
      cases h
      exact ⟨v, List.getElem?_set_self (by rw [r.len]; exact hl), q⟩
    · rw [List.getElem?_eq_none (by simpa using hl)] at h
      cases h
  · rw [List.getElem?_set_ne hj] at h
    obtain ⟨u, e1, q1⟩ := r.at_ j e h
    exact ⟨u, (List.getElem?_set_ne hj).trans e1, q1⟩

/-- a step that only adds a new object that is no thing of the store -/
theorem Stp.fresh {p : Addr} {o : HO} (hp : H p = none) : Stp μ H μ (upd H p o) :=
  ⟨⟨[], by simp⟩, fun a xs h => by rw [upd_ne (ne_of_none h hp)]; exact h, fun a o u h => by rw [upd_ne (ne_of_none h hp)]; exact h⟩
theorem Stp.alloc {p : Addr} {o : HO} (hp : H p = none) : Stp μ H (μ ++ [p]) (upd H p o) :=
  ⟨⟨[p], rfl⟩, fun a xs h => by rw [upd_ne (ne_of_none h hp)]; exact h, fun a o u h => by rw [upd_ne (ne_of_none h hp)]; exact h⟩
/-- a step that changes a thing of the store -/
theorem Stp.write {p : Addr} {o u : HO} (hp : H p = some u) (h1 : ∀ xs, u ≠ .tup xs) (h2 : ∀ ob w, u ≠ .frz ob w) : Stp μ H μ (upd H p o) :=
  ⟨⟨[], by simp⟩, fun a xs h => by rw [upd_ne (fun e => by subst e; rw [h] at hp; cases hp; exact h1 _ rfl)]; exact h,
    fun a ob w h => by rw [upd_ne (fun e => by subst e; rw [h] at hp; cases hp; exact h2 _ _ rfl)]; exact h⟩
theorem RO.step (s : Stp μ H μ' H') {a : Addr} {o : O} (k : ∀ u, H a = some u → H' a = some u) : RO K mg μ H a o → RO K mg μ' H' a o := by
  cases o with
  | lst ds => rintro ⟨xs, h, r⟩; exact ⟨xs, k _ h, r.step s⟩
  | ins C fs => rintro ⟨Ca, dx, vs, m, h, r⟩; exact ⟨Ca, dx, vs, m, k _ h, r.step s⟩
  | dic kvs => rintro ⟨xs, h, r⟩; exact ⟨xs, k _ h, r.step s⟩
theorem RO.some {a : Addr} {o : O} (h : RO K mg μ H a o) : ∃ u, H a = some u := by
  cases o with
  | lst ds => obtain ⟨xs, h, _⟩ := h; exact ⟨_, h⟩
  | ins C fs => obtain ⟨_, _, _, _, h, _⟩ := h; exact ⟨_, h⟩
  | dic kvs => obtain ⟨_, h, _⟩ := h; exact ⟨_, h⟩
theorem RS.get {st : Sto} (r : RS K mg μ H st) {n : Nat} {o : O} (h : st[n]? = some o) : ∃ a, μ[n]? = some a ∧ RO K mg μ H a o := by
  obtain ⟨hn, _⟩ := List.getElem?_eq_some_iff.mp h
  have hm : n < μ.length := by rw [r.len]; exact hn
  exact ⟨μ[n], List.getElem?_eq_getElem hm, r.at_ n _ o (List.getElem?_eq_getElem hm) h⟩
theorem RS.get' {st : Sto} (r : RS K mg μ H st) {n : Nat} {a : Addr} (h : μ[n]? = some a) : ∃ o, st[n]? = some o ∧ RO K mg μ H a o := by
  obtain ⟨hn, _⟩ := List.getElem?_eq_some_iff.mp h
  have hm : n < st.length := by rw [← r.len]; exact hn
  exact ⟨st[n], List.getElem?_eq_getElem hm, r.at_ n a _ h (List.getElem?_eq_getElem hm)⟩
theorem RS.fresh {st : Sto} {p : Addr} {o : HO} (r : RS K mg μ H st) (hp : H p = none) : RS K mg μ (upd H p o) st :=
  ⟨r.len, r.nd, fun n a ob h1 h2 => RO.step (Stp.fresh hp) (fun u hu => by rw [upd_ne (ne_of_none hu hp)]; exact hu) (r.at_ n a ob h1 h2)⟩
theorem RS.notin {st : Sto} (r : RS K mg μ H st) {p : Addr} (hp : H p = none) : p ∉ μ := fun hm => by
  obtain ⟨n, hn⟩ := List.getElem?_of_mem hm
  obtain ⟨o, _, q⟩ := r.get' hn
  obtain ⟨u, hu⟩ := q.some
  rw [hp] at hu; cases hu
/-- a new thing of the store -/
theorem RS.alloc {st : Sto} {p : Addr} {o : HO} {ob : O} (r : RS K mg μ H st) (hp : H p = none) (q : RO K mg (μ ++ [p]) (upd H p o) p ob) : RS K mg (μ ++ [p]) (upd H p o) (st ++ [ob]) := by
  refine ⟨by simp [r.len], ?_, fun n a o1 h1 h2 => ?_⟩
  · refine List.nodup_append.mpr ⟨r.nd, by simp, fun x hx y hy => ?_⟩
    simp at hy; subst hy
    exact fun e => r.notin hp (e ▸ hx)
  · by_cases hn : n < μ.length
    · rw [List.getElem?_append_left hn] at h1
      rw [List.getElem?_append_left (by rw [← r.len]; exact hn)] at h2
      exact RO.step (Stp.alloc hp) (fun u hu => by rw [upd_ne (ne_of_none hu hp)]; exact hu) (r.at_ n a o1 h1 h2)
    · have hl : n < (μ ++ [p]).length := (List.getElem?_eq_some_iff.mp h1).1
      have e : n = μ.length := by simp at hl; omega
      subst e
      rw [List.getElem?_append_right (Nat.le_refl _)] at h1
      rw [r.len, List.getElem?_append_right (Nat.le_refl _)] at h2
      simp at h1 h2
      subst h1 h2
      exact q
/-- a thing of the store is written -/
theorem RS.write {st : Sto} {n : Nat} {a : Addr} {o : HO} {ob : O} (r : RS K mg μ H st) (h : μ[n]? = some a) (s : Stp μ H μ (upd H a o)) (q : RO K mg μ (upd H a o) a ob) : RS K mg μ (upd H a o) (st.set n ob) := by
  refine ⟨by simp [r.len], r.nd, fun m b o1 h1 h2 => ?_⟩
  by_cases hm : n = m
  · subst hm
    rw [h] at h1; cases h1
    have hl : n < st.length := by rw [← r.len]; exact (List.getElem?_eq_some_iff.mp h).1
    rw [List.getElem?_set_self hl] at h2; cases h2
    exact q
  · rw [List.getElem?_set_ne hm] at h2
    refine RO.step s (fun u hu => ?_) (r.at_ m b o1 h1 h2)
    rw [upd_ne (fun e => ?_)]
    · exact hu
    · subst e
      obtain ⟨i1, e1⟩ := List.getElem?_eq_some_iff.mp h
      obtain ⟨i2, e2⟩ := List.getElem?_eq_some_iff.mp h1
      exact hm ((List.getElem_inj r.nd).mp (e1.trans e2.symm))
end
end DX

set_option Elab.async false
set_option linter.all false
set_option maxRecDepth 100000
set_option maxHeartbeats 1000000
/-! DX, part b: expressions. -/
namespace L2
open PySem PySem.Spec PyProof.Rows
theorem PE.imp {X : Cx} {e : Expr} {t t' : TE} (h : PE X e t) (i : ∀ σ H Q, t' σ H Q → t σ H Q) : PE X e t' := ⟨fun pins s σ H Q I q => h.run pins s σ H Q I (i σ H Q q)⟩
theorem PT.imp {X : Cx} {e : Expr} {t t' : TT} (h : PT X e t) (i : ∀ σ H Q, t' σ H Q → t σ H Q) : PT X e t' := ⟨fun pins s σ H Q I q => h.run pins s σ H Q I (i σ H Q q)⟩
theorem PW.imp {X : Cx} {e : Expr} {t t' : TT} (h : PW X e t) (i : ∀ σ H Q, t' σ H Q → t σ H Q) : PW X e t' := ⟨fun wh pins s σ H Q I q => h.run wh pins s σ H Q I (i σ H Q q)⟩
theorem PA.imp {X : Cx} {es : List Expr} {t t' : TA} (h : PA X es t) (i : ∀ σ H Q, t' σ H Q → t σ H Q) : PA X es t' := ⟨fun pos pins s σ H Q I q => h.run pos pins s σ H Q I (i σ H Q q)⟩
theorem PSs.imp {X : Cx} {e : List Stmt} {t t' : TS} (h : PSs X e t) (i : ∀ D σ H, t' D σ H → t D σ H) : PSs X e t' := ⟨fun pins s σ H Q I q => h.run pins s σ H Q I (i Q σ H q)⟩
theorem PS.imp {X : Cx} {e : Stmt} {t t' : TS} (h : PS X e t) (i : ∀ D σ H, t' D σ H → t D σ H) : PS X e t' := ⟨fun pins s σ H Q I q => h.run pins s σ H Q I (i Q σ H q)⟩

end L2
namespace DX
open PySem PySem.Spec PyProof.Rows L2

abbrev DP := D → Sto → Prop
abbrev W := Ev → Sto → DP → Prop
abbrev WT := Ev → Sto → (Bool → Sto → Prop) → Prop
abbrev WA := Ev → Sto → (List D → Sto → Prop) → Prop
abbrev St' := L2.St

section
variable (X : Cx)
/-- what is wanted of data is wanted of values -/
def Ful (μ : List Addr) (H : Hp) (P : DP) (Q : VK) : Prop :=
  ∀ d st v H' μ', P d st → Stp μ H μ' H' → RS X.K X.mg μ' H' st → Rv X.K X.mg μ' H' v d → Q v H'
def tD (w : W) : TE := fun σ H Q => ∃ μ env st P, RS X.K X.mg μ H st ∧ RE X.K X.mg μ H σ env ∧ w env st P ∧ Ful X μ H P Q
def tT (w : WT) : TT := fun σ H Q => ∃ μ env st P, RS X.K X.mg μ H st ∧ RE X.K X.mg μ H σ env ∧ w env st P ∧
  ∀ b st' H' μ', P b st' → Stp μ H μ' H' → RS X.K X.mg μ' H' st' → Q b H'
def tA (w : WA) : TA := fun σ H Q => ∃ μ env st P, RS X.K X.mg μ H st ∧ RE X.K X.mg μ H σ env ∧ w env st P ∧
  ∀ ds st' vs H' μ', P ds st' → Stp μ H μ' H' → RS X.K X.mg μ' H' st' → Rvs X.K X.mg μ' H' vs ds → Q vs H'
abbrev Snd (e : Expr) (w : W) : Prop := PE X e (tD X w)
abbrev SndT (e : Expr) (w : WT) : Prop := PT X e (tT X w)
abbrev SndA (es : List Expr) (w : WA) : Prop := PA X es (tA X w)
end
section
variable {X : Cx} {μ μ' : List Addr} {H H' : Hp} {st : Sto} {P : DP} {Q : VK}
theorem Ful.now (f : Ful X μ H P Q) {d : D} {v : V} (p : P d st) (r : RS X.K X.mg μ H st) (q : Rv X.K X.mg μ H v d) : Q v H := f d st v H μ p .refl r q
theorem Ful.then_ (f : Ful X μ H P Q) (s : Stp μ H μ' H') : Ful X μ' H' P Q := fun d st v H'' μ'' p s' r q => f d st v H'' μ'' p (s.trans s') r q
/-- a new tuple -/
theorem Ful.tup (f : Ful X μ H P Q) (r : RS X.K X.mg μ H st) {ds : List D} {xs : List V} (q : Rvs X.K X.mg μ H xs ds) (p : P (.tup ds) st) : ∀ a, H a = none → Q (.ref a) (upd H a (.tup xs)) := fun a ha =>
  f _ _ _ _ μ p (Stp.fresh ha) (r.fresh ha) (.tup (.inl upd_same) (q.step (Stp.fresh ha)))
/-- a new list -/
theorem Ful.lst (f : Ful X μ H P Q) (r : RS X.K X.mg μ H st) {ds : List D} {xs : List V} (q : Rvs X.K X.mg μ H xs ds) (p : P (.ref st.length) (st ++ [.lst ds])) : ∀ a, H a = none → Q (.ref a) (upd H a (.lst xs)) := fun a ha =>
  f _ _ _ _ (μ ++ [a]) p (Stp.alloc ha) (r.alloc ha ⟨xs, upd_same, q.step (Stp.alloc ha)⟩) (.ref (by rw [← r.len]; simp))
end

/-! ### names and constants -/
def wVar (i : Nat) : W := fun env st P => ∃ d, env[i]? = some (some d) ∧ P d st
def wC (d : D) : W := fun _ st P => P d st
section
variable {X : Cx} {pos : Pos}
theorem s_var {i : Nat} {x : Str} (hN : X.N[i]? = some x) (hv : Vis X.env.scope x) (hd : (x == ("__debug__" : Str)) = false) (hcd : (x == ("__classdict__" : Str)) = false) : Snd X (.Name x pos) (wVar i) :=
  (pe_var hN hv hd hcd).imp fun σ H Q ⟨μ, env, st, P, rs, re, ⟨d, e, p⟩, f⟩ => let ⟨v, e1, r⟩ := re.at_ i d e; ⟨v, e1, f.now p rs r⟩
theorem s_int {i : Int} {j : Nat} : Snd X (.Constant (.int i) j pos) (wC (.int i)) := pe_int.imp fun _ _ _ ⟨_, _, _, _, rs, _, p, f⟩ => f.now p rs (.int i)
theorem s_bl {b : Bool} {j : Nat} : Snd X (.Constant (.bool b) j pos) (wC (.bl b)) := pe_bl.imp fun _ _ _ ⟨_, _, _, _, rs, _, p, f⟩ => f.now p rs (.bl b)
theorem s_non {j : Nat} : Snd X (.Constant .none j pos) (wC .non) := pe_non.imp fun _ _ _ ⟨_, _, _, _, rs, _, p, f⟩ => f.now p rs .non
theorem s_str {x : Str} {j : Nat} : Snd X (.Constant (.str x) j pos) (wC (.str x)) := pe_str.imp fun _ _ _ ⟨_, _, _, _, rs, _, p, f⟩ => f.now p rs (.str x)
/-- a global constant: whatever it is -/
def GC (X : Cx) (x : Str) (d : D) : Prop := ∃ u v, X.mg x = some u ∧ RelV v u ∧ ∀ μ H, Rv X.K X.mg μ H v d
theorem s_glob {x : Str} {d : D} (hg : Gl X x) (h : GC X x d) (hd : (x == ("__debug__" : Str)) = false) : Snd X (.Name x pos) (wC d) := by
  obtain ⟨u, v, hm, r, hv⟩ := h
  exact (pe_glob hg hm r hd).imp fun _ _ _ ⟨_, _, _, _, rs, _, p, f⟩ => f.now p rs (hv _ _)
end

/-! ### two places, one place -/
def wBin (r : D → D → Sto → DP → Prop) (wa wb : W) : W := fun env st P => wa env st fun d st1 => wb env st1 fun e st2 => r d e st2 P
def wUn (r : D → Sto → DP → Prop) (wa : W) : W := fun env st P => wa env st fun d st1 => r d st1 P
def OpD (X : Cx) (f : Value → Value → Sem Value) (r : D → D → Sto → DP → Prop) : Prop :=
  ∃ R : R2, OpR X f R ∧ ∀ μ H st x y d e P Q, RS X.K X.mg μ H st → Rv X.K X.mg μ H x d → Rv X.K X.mg μ H y e → r d e st P → Ful X μ H P Q → R x y H Q
def UnD (X : Cx) (f : Value → Sem Value) (r : D → Sto → DP → Prop) : Prop :=
  ∃ R : V → Hp → VK → Prop, UnR X f R ∧ ∀ μ H st x d P Q, RS X.K X.mg μ H st → Rv X.K X.mg μ H x d → r d st P → Ful X μ H P Q → R x H Q
section
variable {X : Cx} {pos : Pos} {a b c : Expr} {wa wb wc : W} {r r' : D → D → Sto → DP → Prop}
/-- two expressions, one behind the other -/
theorem two {σ : St'} {H : Hp} {R : V → V → Hp → Prop} {μ : List Addr} {env : Ev} {st : Sto} {P : D → D → Sto → Prop} (rs : RS X.K X.mg μ H st) (re : RE X.K X.mg μ H σ env) (h : wa env st fun d st1 => wb env st1 fun e st2 => P d e st2)
    (k : ∀ d e st' x y H' μ', P d e st' → Stp μ H μ' H' → RS X.K X.mg μ' H' st' → RE X.K X.mg μ' H' σ env → Rv X.K X.mg μ' H' x d → Rv X.K X.mg μ' H' y e → R x y H') :
    tD X wa σ H fun x H1 => tD X wb σ H1 fun y H2 => R x y H2 :=
  ⟨μ, env, st, _, rs, re, h, fun d st1 v H1 μ1 p s1 rs1 r1 => ⟨μ1, env, st1, _, rs1, re.step s1, p, fun e st2 u H2 μ2 q s2 rs2 r2 =>
    k d e st2 v u H2 μ2 q (s1.trans s2) rs2 ((re.step s1).step s2) (r1.step s2) r2⟩⟩
theorem s_bin {op : Operator} (ho : OpD X (binaryOp op) r) (ha : Snd X a wa) (hb : Snd X b wb) : Snd X (.BinOp a op b pos) (wBin r wa wb) := by
  obtain ⟨R, h1, h2⟩ := ho
  exact (pe_op h1 ha hb).imp fun σ H Q ⟨μ, env, st, P, rs, re, w, f⟩ => two rs re w fun d e st' x y H' μ' p s rs' _ r1 r2 => h2 μ' H' st' x y d e P Q rs' r1 r2 p (f.then_ s)
theorem s_un {op : UnaryOp} {r : D → Sto → DP → Prop} (ho : UnD X (unaryOp op) r) (ha : Snd X a wa) : Snd X (.UnaryOp op a pos) (wUn r wa) := by
  obtain ⟨R, h1, h2⟩ := ho
  exact (pe_un h1 ha).imp fun σ H Q ⟨μ, env, st, P, rs, re, w, f⟩ => ⟨μ, env, st, _, rs, re, w, fun d st1 v H1 μ1 p s1 rs1 r1 => h2 μ1 H1 st1 v d P Q rs1 r1 p (f.then_ s1)⟩
theorem s_cmp {op : CmpOp} (ho : OpD X (compareOp op) r) (ha : Snd X a wa) (hb : Snd X b wb) (hm : behindInMarks op b = false) : Snd X (.Compare a [op] [b] pos) (wBin r wa wb) := by
  obtain ⟨R, h1, h2⟩ := ho
  exact (pe_cmpR h1 ha hb hm).imp fun σ H Q ⟨μ, env, st, P, rs, re, w, f⟩ => two rs re w fun d e st' x y H' μ' p s rs' _ r1 r2 => h2 μ' H' st' x y d e P Q rs' r1 r2 p (f.then_ s)
/-- a value's truth, by data -/
def tru (d : D) (st : Sto) (k : Bool) : Prop :=
  match d with
  | .non => k = false
  | .bl b => k = b
  | .int i => k = !decide (i = 0)
  | .str y => y.length ≤ sizeLine ∧ k = !decide (y.length = 0)
  | .tup xs => k = !xs.isEmpty
  | .rol xs => k = !xs.isEmpty
  | .ref n => ∃ xs, st[n]? = some (.lst xs) ∧ k = !xs.isEmpty
  | _ => False
theorem isEmpty_rvs {K : PySem.W.Frag} {mg : Str → Option Value} {μ : List Addr} {H : Hp} {xs : List V} {ds : List D} (r : Rvs K mg μ H xs ds) : xs.isEmpty = ds.isEmpty := by
  cases r <;> rfl
theorem tru_V {μ : List Addr} {H : Hp} {st : Sto} {d : D} {v : V} {k : Bool} (rs : RS X.K X.mg μ H st) (r : Rv X.K X.mg μ H v d) (h : tru d st k) : TruV X.K v H k := by
  cases r with
  | non => exact h
  | bl b => exact h
  | int i =>
    have h : k = !decide (i = 0) := h
    show k = (i != 0)
    rw [h]; by_cases e : i = 0 <;> simp [e]
  | str x =>
    obtain ⟨h1, h2⟩ : x.length ≤ sizeLine ∧ k = !decide (x.length = 0) := h
    refine ⟨h1, ?_⟩
    rw [h2]; by_cases e : x.length = 0 <;> simp [e]
  | tup hs q => 
    have h : k = _ := h
    exact .inr (.inl ⟨_, hs.sqt, by rw [h, isEmpty_rvs q]⟩)
  | rol hs q => 
    have h : k = _ := h
    exact .inl ⟨_, hs.sql, by rw [h, isEmpty_rvs q]⟩
  | @ref a n e =>
    obtain ⟨xs, h1, h2⟩ := (show ∃ xs, st[n]? = some (O.lst xs) ∧ k = !xs.isEmpty from h)
    obtain ⟨vs, h3, q⟩ := rs.at_ _ _ _ e h1
    exact .inl ⟨vs, .of h3, by rw [h2, isEmpty_rvs q]⟩
  | fn _ => exact h.elim
  | ty _ => exact h.elim
/-! tests -/
/-- an expression as a test, by its value's truth -/
def wTru (w : W) : WT := fun env st P => w env st fun d st1 => ∃ k, tru d st1 k ∧ P k st1
theorem s_truth (ha : Snd X a wa) (he : ∀ whole, isTrue a X.env whole = (do let v ← whole; standAt a.pos; holding [v] (truthy v))) : SndT X a (wTru wa) :=
  (pt_truth ha he).imp fun σ H Q ⟨μ, env, st, P, rs, re, w, f⟩ => ⟨μ, env, st, _, rs, re, w, fun d st1 v H1 μ1 ⟨k, t, p⟩ s1 rs1 r1 => ⟨k, tru_V rs1 r1 t, f k st1 H1 μ1 p s1 rs1⟩⟩
/-- a comparison as a test: its value is a bool -/
def wTb (w : W) : WT := fun env st P => w env st fun d st1 => ∃ k, d = .bl k ∧ P k st1
theorem s_cmpT {op : CmpOp} (ho : OpD X (compareOp op) r) (ha : Snd X a wa) (hb : Snd X b wb) (hm : behindInMarks op b = false) : SndT X (.Compare a [op] [b] pos) (wTb (wBin r wa wb)) := by
  obtain ⟨R, h1, h2⟩ := ho
  refine (pt_cmpR h1 ha hb hm).imp fun σ H Q ⟨μ, env, st, P, rs, re, w, f⟩ => two rs re w fun d e st' x y H' μ' p s rs' _ r1 r2 => h2 μ' H' st' x y d e _ _ rs' r1 r2 p ?_
  rintro d2 st2 v2 H2 μ2 ⟨k, rfl, p2⟩ s2 rs2 r2
  cases r2
  exact ⟨k, rfl, f k st2 H2 μ2 p2 (s.trans s2) rs2⟩
def wChain (r r' : D → D → Sto → DP → Prop) (wa wb wc : W) : W := fun env st P => wa env st fun d st1 => wb env st1 fun e st2 => r d e st2 fun z st3 => ∃ k, z = .bl k ∧
  (if k = true then wc env st3 fun g st4 => r' e g st4 P else P (.bl false) st3)
theorem chain_of {R R' : R2} (h2 : ∀ μ H st x y d e P Q, RS X.K X.mg μ H st → Rv X.K X.mg μ H x d → Rv X.K X.mg μ H y e → r d e st P → Ful X μ H P Q → R x y H Q)
    (h2' : ∀ μ H st x y d e P Q, RS X.K X.mg μ H st → Rv X.K X.mg μ H x d → Rv X.K X.mg μ H y e → r' d e st P → Ful X μ H P Q → R' x y H Q) {σ : St'} {H : Hp} {Q : VK} {μ : List Addr} {env : Ev} {st : Sto} {P : DP}
    (rs : RS X.K X.mg μ H st) (re : RE X.K X.mg μ H σ env) (w : wChain r r' wa wb wc env st P) (f : Ful X μ H P Q) : tChain R R' (tD X wa) (tD X wb) (tD X wc) σ H Q := by
  refine two rs re w fun d e st' x y H' μ' p s rs' re' r1 r2 => h2 μ' H' st' x y d e _ _ rs' r1 r2 p ?_
  rintro z st3 v3 H3 μ3 ⟨k, rfl, p3⟩ s3 rs3 r3
  cases r3
  refine ⟨k, rfl, ?_⟩
  cases k with
  | false => exact f.then_ (s.trans s3) _ _ _ _ μ3 p3 .refl rs3 (.bl false)
  | true => exact ⟨μ3, env, st3, _, rs3, re'.step s3, p3, fun g st4 u H4 μ4 p4 s4 rs4 r4 => h2' μ4 H4 st4 y u e g P Q rs4 ((r2.step s3).step s4) r4 p4 (f.then_ ((s.trans s3).trans s4))⟩
theorem s_chain {op op' : CmpOp} (ho : OpD X (compareOp op) r) (ho' : OpD X (compareOp op') r') (ha : Snd X a wa) (hb : Snd X b wb) (hc : Snd X c wc) (hm : lastMarks [op, op'] [b, c] = false) :
    Snd X (.Compare a [op, op'] [b, c] pos) (wChain r r' wa wb wc) := by
  obtain ⟨R, h1, h2⟩ := ho
  obtain ⟨R', h1', h2'⟩ := ho'
  exact (pe_chain h1 h1' ha hb hc hm).imp fun σ H Q ⟨μ, env, st, P, rs, re, w, f⟩ => chain_of h2 h2' rs re w f
theorem s_chainT {op op' : CmpOp} (ho : OpD X (compareOp op) r) (ho' : OpD X (compareOp op') r') (ha : Snd X a wa) (hb : Snd X b wb) (hc : Snd X c wc) (hm : lastMarks [op, op'] [b, c] = false) :
    SndT X (.Compare a [op, op'] [b, c] pos) (wTb (wChain r r' wa wb wc)) := by
  obtain ⟨R, h1, h2⟩ := ho
  obtain ⟨R', h1', h2'⟩ := ho'
  refine (pt_chain h1 h1' ha hb hc hm).imp fun σ H Q ⟨μ, env, st, P, rs, re, w, f⟩ => ?_
  refine chain_of h2 h2' rs re w ?_
  rintro d st' v H' μ' ⟨k, rfl, p⟩ s rs' r'
  cases r'
  exact ⟨k, rfl, f k st' H' μ' p s rs'⟩

/-! and, or, not, if -/
def wNotT (w : WT) : WT := fun env st P => w env st fun k st1 => P (!k) st1
def wAndT (w u : WT) : WT := fun env st P => w env st fun k st1 => if k = true then u env st1 P else P false st1
def wOrT (w u : WT) : WT := fun env st P => w env st fun k st1 => if k = true then P true st1 else u env st1 P
variable {ta tb : WT} {rest : List Expr}
theorem s_notT (ha : SndT X a ta) : SndT X (.UnaryOp .Not a pos) (wNotT ta) :=
  (pt_not ha).imp fun σ H Q ⟨μ, env, st, P, rs, re, w, f⟩ => ⟨μ, env, st, _, rs, re, w, fun k st1 H1 μ1 p s1 rs1 => f _ st1 H1 μ1 p s1 rs1⟩
abbrev SndW (X : Cx) (e : Expr) (w : WT) : Prop := PW X e (tT X w)
theorem s_andW1 (ha : SndT X a ta) : SndW X (.BoolOp .And [a] pos) ta := pw_and1 ha
theorem s_orW1 (ha : SndT X a ta) : SndW X (.BoolOp .Or [a] pos) ta := pw_or1 ha
theorem s_andW (ha : SndT X a ta) (hb : SndW X (.BoolOp .And (b :: rest) pos) tb) : SndW X (.BoolOp .And (a :: b :: rest) pos) (wAndT ta tb) :=
  (pw_and ha hb).imp fun σ H Q ⟨μ, env, st, P, rs, re, w, f⟩ => ⟨μ, env, st, _, rs, re, w, fun k st1 H1 μ1 p s1 rs1 => by
    cases k with
    | false => exact f _ st1 H1 μ1 p s1 rs1
    | true => exact ⟨μ1, env, st1, P, rs1, re.step s1, p, fun b st2 H2 μ2 p2 s2 rs2 => f b st2 H2 μ2 p2 (s1.trans s2) rs2⟩⟩
theorem s_orW (ha : SndT X a ta) (hb : SndW X (.BoolOp .Or (b :: rest) pos) tb) : SndW X (.BoolOp .Or (a :: b :: rest) pos) (wOrT ta tb) :=
  (pw_or ha hb).imp fun σ H Q ⟨μ, env, st, P, rs, re, w, f⟩ => ⟨μ, env, st, _, rs, re, w, fun k st1 H1 μ1 p s1 rs1 => by
    cases k with
    | true => exact f _ st1 H1 μ1 p s1 rs1
    | false => exact ⟨μ1, env, st1, P, rs1, re.step s1, p, fun b st2 H2 μ2 p2 s2 rs2 => f b st2 H2 μ2 p2 (s1.trans s2) rs2⟩⟩
/-- as values -/
def wAnd (w u : W) : W := fun env st P => w env st fun d st1 => ∃ k, tru d st1 k ∧ if k = true then u env st1 P else P d st1
def wOr (w u : W) : W := fun env st P => w env st fun d st1 => ∃ k, tru d st1 k ∧ if k = true then P d st1 else u env st1 P
def wNot (w : W) : W := fun env st P => w env st fun d st1 => ∃ k, tru d st1 k ∧ P (.bl (!k)) st1
def wIf (t : WT) (u w : W) : W := fun env st P => t env st fun k st1 => if k = true then u env st1 P else w env st1 P
theorem s_one {op : BoolOp} (ha : Snd X a wa) : Snd X (.BoolOp op [a] pos) wa := pe_one ha
theorem s_and (ha : Snd X a wa) (hb : Snd X (.BoolOp .And (b :: rest) pos) wb) : Snd X (.BoolOp .And (a :: b :: rest) pos) (wAnd wa wb) :=
  (pe_andT ha hb).imp fun σ H Q ⟨μ, env, st, P, rs, re, w, f⟩ => ⟨μ, env, st, _, rs, re, w, fun d st1 v H1 μ1 ⟨k, t, p⟩ s1 rs1 r1 => ⟨k, tru_V rs1 r1 t, by
    cases k with
    | false => exact f _ st1 v H1 μ1 p s1 rs1 r1
    | true => exact ⟨μ1, env, st1, P, rs1, re.step s1, p, f.then_ s1⟩⟩⟩
theorem s_or (ha : Snd X a wa) (hb : Snd X (.BoolOp .Or (b :: rest) pos) wb) : Snd X (.BoolOp .Or (a :: b :: rest) pos) (wOr wa wb) :=
  (pe_orT ha hb).imp fun σ H Q ⟨μ, env, st, P, rs, re, w, f⟩ => ⟨μ, env, st, _, rs, re, w, fun d st1 v H1 μ1 ⟨k, t, p⟩ s1 rs1 r1 => ⟨k, tru_V rs1 r1 t, by
    cases k with
    | true => exact f _ st1 v H1 μ1 p s1 rs1 r1
    | false => exact ⟨μ1, env, st1, P, rs1, re.step s1, p, f.then_ s1⟩⟩⟩
theorem s_not (ha : Snd X a wa) : Snd X (.UnaryOp .Not a pos) (wNot wa) :=
  (pe_notT ha).imp fun σ H Q ⟨μ, env, st, P, rs, re, w, f⟩ => ⟨μ, env, st, _, rs, re, w, fun d st1 v H1 μ1 ⟨k, t, p⟩ s1 rs1 r1 => ⟨k, tru_V rs1 r1 t, f _ st1 _ H1 μ1 p s1 rs1 (.bl _)⟩⟩
theorem s_if (hc : SndT X c ta) (ha : Snd X a wa) (hb : Snd X b wb) : Snd X (.IfExp c a b pos) (wIf ta wa wb) :=
  (pe_ifExp hc ha hb).imp fun σ H Q ⟨μ, env, st, P, rs, re, w, f⟩ => ⟨μ, env, st, _, rs, re, w, fun k st1 H1 μ1 p s1 rs1 => by
    cases k with
    | true => exact ⟨μ1, env, st1, P, rs1, re.step s1, p, f.then_ s1⟩
    | false => exact ⟨μ1, env, st1, P, rs1, re.step s1, p, f.then_ s1⟩⟩
end

/-! ### argument lists, displays -/
def wNil : WA := fun _ st P => P [] st
def wCons (w : W) (r : WA) : WA := fun env st P => w env st fun d st1 => r env st1 fun ds st2 => P (d :: ds) st2
def wTup (w : WA) : W := fun env st P => w env st fun ds st1 => ds.length ≤ sizeLine ∧ P (.tup ds) st1
def wLst (w : WA) : W := fun env st P => w env st fun ds st1 => ds.length ≤ sizeLine ∧ P (.ref st1.length) (st1 ++ [.lst ds])
section
variable {X : Cx} {pos : Pos} {e : Expr} {es : List Expr} {w : W} {wr : WA}
theorem s_nil : SndA X [] wNil := pa_nil.imp fun σ H Q ⟨μ, env, st, P, rs, re, p, f⟩ => f _ _ _ _ μ p .refl rs .nil
theorem s_cons (ha : Snd X e w) (hr : SndA X es wr) (hs : starEach (e :: es) X.env = (false, eval e X.env) :: starEach es X.env) : SndA X (e :: es) (wCons w wr) :=
  (pa_cons ha hr hs).imp fun σ H Q ⟨μ, env, st, P, rs, re, p, f⟩ => ⟨μ, env, st, _, rs, re, p, fun d st1 v H1 μ1 p1 s1 rs1 r1 => ⟨μ1, env, st1, _, rs1, re.step s1, p1, fun ds st2 vs H2 μ2 p2 s2 rs2 r2 =>
    f _ st2 _ H2 μ2 p2 (s1.trans s2) rs2 (.cons (r1.step s2) r2)⟩⟩
theorem s_tup {k : Nat} (h : SndA X es wr) : Snd X (.Tuple es k pos) (wTup wr) :=
  (pe_tup h).imp fun σ H Q ⟨μ, env, st, P, rs, re, p, f⟩ => ⟨μ, env, st, _, rs, re, p, fun ds st1 vs H1 μ1 ⟨z, p1⟩ s1 rs1 r1 => ⟨by rw [r1.length]; exact z, (f.then_ s1).tup rs1 r1 p1⟩⟩
theorem s_lst (h : SndA X es wr) : Snd X (.List es pos) (wLst wr) :=
  (pe_lst h).imp fun σ H Q ⟨μ, env, st, P, rs, re, p, f⟩ => ⟨μ, env, st, _, rs, re, p, fun ds st1 vs H1 μ1 ⟨z, p1⟩ s1 rs1 r1 => ⟨by rw [r1.length]; exact z, (f.then_ s1).lst rs1 r1 p1⟩⟩
end
end DX

set_option Elab.async false
set_option linter.all false
set_option maxRecDepth 100000
set_option maxHeartbeats 4000000
/-! DX, part m: tuple * 0, tuple * 1. -/
namespace DX
open PySem PySem.Spec PyProof.Rows L2
theorem tuple_mul0 (l : Addr) (items : Array Value) (n : Nat) (dd : Option Addr) (sl : Array (Option Value)) (x : Int) (u : Tok) (c0 : (decide (x < -(2 ^ 63)) || decide (x ≥ 2 ^ 63)) = false) (c1 : (items.isEmpty || x == 1) = false) (c2 : (decide (x ≤ 0) || items.isEmpty) = true) :
    Meets (Builtin.«tuple.__mul__» ⟨[.ref l, .int x u], []⟩) (fun _ R s => s.heap.get? l = some { cls := .type "tuple", dict := dd, data := .seq items n, slots := sl } ∧
      R (.ok (.ret (Value.ref s.heap.objs.size))) { s with heap := s.heap.push { cls := Value.type "tuple", data := Data.seq #[] }, toks := s.toks }) :=
  .of_wp fun prog w A R s h => by
    obtain ⟨hp, g, d, tk, os⟩ := s
    obtain ⟨hl, h⟩ := h
    have f1 := AutoSeq1.idx_int
    wp_walk using wpAny_loadPart' hl
    repeat (first
      | (refine wpAny_ite_false (decide_eq_false (by rw [c0]; exact Bool.false_ne_true)) ?_; wp_walk using wpAny_loadPart' hl)
      | (refine wpAny_ite_false (decide_eq_false (by rw [c1]; exact Bool.false_ne_true)) ?_; wp_walk using wpAny_loadPart' hl)
      | (refine wpAny_ite_true (decide_eq_true (by rw [c2])) ?_; wp_walk using wpAny_loadPart' hl)
      | (refine wpAny_ite_false (decide_eq_false (by rw [sizeLine_eq]; decide)) ?_; wp_walk using wpAny_loadPart' hl))
    exact ⟨_, rfl, h⟩
theorem tuple_mul1 (l : Addr) (items : Array Value) (n : Nat) (dd : Option Addr) (sl : Array (Option Value)) (x : Int) (u : Tok) (c0 : (decide (x < -(2 ^ 63)) || decide (x ≥ 2 ^ 63)) = false) (c1 : (items.isEmpty || x == 1) = true) :
    Meets (Builtin.«tuple.__mul__» ⟨[.ref l, .int x u], []⟩) (fun _ R s => s.heap.get? l = some { cls := .type "tuple", dict := dd, data := .seq items n, slots := sl } ∧ R (.ok (.ret (Value.ref l))) s) :=
  .of_wp fun prog w A R s h => by
    obtain ⟨hp, g, d, tk, os⟩ := s
    obtain ⟨hl, h⟩ := h
    have f1 := AutoSeq1.idx_int
    wp_walk using wpAny_loadPart' hl
    repeat (first
      | (refine wpAny_ite_false (decide_eq_false (by rw [c0]; exact Bool.false_ne_true)) ?_; wp_walk using wpAny_loadPart' hl)
      | (refine wpAny_ite_true (decide_eq_true (by rw [c1])) ?_; wp_walk using wpAny_loadPart' hl))
    exact ⟨_, rfl, h⟩
def rRep0 (K : PySem.W.Frag) : R2 := fun x y H Q => ∃ l xs, x = .ref l ∧ y = .int 0 ∧ SqT K H l xs ∧ xs ≠ [] ∧ ∀ p, H p = none → Q (.ref p) (upd H p (.tup []))
def rRep1 (K : PySem.W.Frag) : R2 := fun x y H Q => ∃ l xs, x = .ref l ∧ y = .int 1 ∧ SqT K H l xs ∧ Q (.ref l) H
section
variable {X : Cx}
theorem op_rep0 : OpR X (binaryOp .Mult) (rRep0 X.K) := by
  intro pins s σ H x y v u Q I rx ry h
  obtain ⟨l, xs, rfl, rfl, hT, hne, q⟩ := h
  cases rx
  obtain ⟨t, rfl⟩ := ry
  obtain ⟨its, r, ⟨⟨cls, dd, data, sl⟩, ho, hc, n, hd⟩, hs⟩ := I.tuple hT
  simp only at hc hd
  subst hc hd
  have hle : its.length = xs.length := r.length.symm
  have hn : its ≠ [] := fun e => hne (by
    rw [e] at hle
    exact List.eq_nil_of_length_eq_zero hle.symm)
  have hi : its.toArray.isEmpty = false := by
    cases its with
    | nil => exact absurd rfl hn
    | cons a b => rfl
  refine wpAny_binaryOp_repeat_ref (T := "tuple") (U := "int") (by decide) ⟨_, ho, rfl⟩ (fun s' => typeIs_int s' 0 t) noFill_tuple_mul F.fills_int_mul F.slot_int_rmul repeat_tuple F.slot_int_index.lookup
    (call_meets F.slot_int_rmul (typeIs_int s 0 t) F.entry_int_rmul (F.args_int_rmul_2 _ _) (int_rmul_tuple 0 t l its.toArray n dd sl)
      ⟨ho, rfl, ⟨_, ho, rfl⟩, call_meets F.slot_tuple_mul ⟨_, ho, rfl⟩ F.entry_tuple_mul (F.args_tuple_mul_2 _ _) (tuple_mul0 l its.toArray n dd sl 0 t (by decide) (by rw [hi]; rfl) (by simp)) ⟨ho, ?_⟩⟩)
  refine ⟨.ref s.heap.objs.size, _, I.laid (t' := s.toks) (o := .tup []) (fun b ob q => Heap.get?_push_of_some _ q) (Nat.le_refl _) ?_, rfl, q _ (I.hok.fresh (Nat.le_refl _))⟩
  exact ⟨Nat.zero_le _, [], .nil, IsTup.new _ _⟩
theorem op_rep1 : OpR X (binaryOp .Mult) (rRep1 X.K) := by
  intro pins s σ H x y v u Q I rx ry h
  obtain ⟨l, xs, rfl, rfl, hT, q⟩ := h
  cases rx
  obtain ⟨t, rfl⟩ := ry
  obtain ⟨its, r, ⟨⟨cls, dd, data, sl⟩, ho, hc, n, hd⟩, hs⟩ := I.tuple hT
  simp only at hc hd
  subst hc hd
  refine wpAny_binaryOp_repeat_ref (T := "tuple") (U := "int") (by decide) ⟨_, ho, rfl⟩ (fun s' => typeIs_int s' 1 t) noFill_tuple_mul F.fills_int_mul F.slot_int_rmul repeat_tuple F.slot_int_index.lookup
    (call_meets F.slot_int_rmul (typeIs_int s 1 t) F.entry_int_rmul (F.args_int_rmul_2 _ _) (int_rmul_tuple 1 t l its.toArray n dd sl)
      ⟨ho, rfl, ⟨_, ho, rfl⟩, call_meets F.slot_tuple_mul ⟨_, ho, rfl⟩ F.entry_tuple_mul (F.args_tuple_mul_2 _ _) (tuple_mul1 l its.toArray n dd sl 1 t (by decide) (by simp)) ⟨ho, ?_⟩⟩)
  exact ⟨.ref l, H, I, rfl, q⟩
end
end DX

set_option Elab.async false
set_option linter.all false
set_option maxRecDepth 100000
set_option maxHeartbeats 1000000
/-! DX, part c: operators over plain data. -/
namespace DX
open PySem PySem.Spec PyProof.Rows L2
section
variable {X : Cx}
theorem OpD.or {f : Value → Value → Sem Value} {r r1 r2 : D → D → Sto → DP → Prop} (h1 : OpD X f r1) (h2 : OpD X f r2) (h : ∀ d e st P, r d e st P → r1 d e st P ∨ r2 d e st P) : OpD X f r := by
  obtain ⟨R1, a1, b1⟩ := h1
  obtain ⟨R2, a2, b2⟩ := h2
  exact ⟨_, a1.or a2, fun μ H st x y d e P Q rs r1 r2 q f => (h d e st P q).imp (fun q => b1 μ H st x y d e P Q rs r1 r2 q f) fun q => b2 μ H st x y d e P Q rs r1 r2 q f⟩
theorem OpD.imp {f : Value → Value → Sem Value} {r r1 : D → D → Sto → DP → Prop} (h1 : OpD X f r1) (h : ∀ d e st P, r d e st P → r1 d e st P) : OpD X f r := by
  obtain ⟨R1, a1, b1⟩ := h1
  exact ⟨_, a1, fun μ H st x y d e P Q rs r1 r2 q f => b1 μ H st x y d e P Q rs r1 r2 (h d e st P q) f⟩
/-- of ints -/
def onI (C : Int → Int → Prop) (g : Int → Int → D) : D → D → Sto → DP → Prop
  | .int i, .int j, st, P => C i j ∧ P (g i j) st
  | _, _, _, _ => False
theorem opd_int {f : Value → Value → Sem Value} {C : Int → Int → Prop} {g : Int → Int → Int} (h : OpR X f (rI C fun i j => .int (g i j))) : OpD X f (onI C fun i j => .int (g i j)) :=
  ⟨_, h, fun μ H st x y d e P Q rs r1 r2 q f => by
    cases r1 <;> try exact q.elim
    cases r2 <;> try exact q.elim
    exact ⟨_, _, rfl, rfl, q.1, f.now q.2 rs (.int _)⟩⟩
theorem opd_bool {f : Value → Value → Sem Value} {C : Int → Int → Prop} {g : Int → Int → Bool} (h : OpR X f (rI C fun i j => .bl (g i j))) : OpD X f (onI C fun i j => .bl (g i j)) :=
  ⟨_, h, fun μ H st x y d e P Q rs r1 r2 q f => by
    cases r1 <;> try exact q.elim
    cases r2 <;> try exact q.elim
    exact ⟨_, _, rfl, rfl, q.1, f.now q.2 rs (.bl _)⟩⟩
theorem rI_of0 {f : Value → Value → Sem Value} {g : Int → Int → V} (h : OpR X f (rI0 g)) : OpR X f (rI (fun _ _ => True) g) := fun pins s σ H x y v u Q I rx ry ⟨i, j, e1, e2, _, q⟩ => h pins s σ H x y v u Q I rx ry ⟨i, j, e1, e2, q⟩

/-! + -/
def rAdd : D → D → Sto → DP → Prop
  | .int i, .int j, st, P => P (.int (i + j)) st
  | .str x, .str y, st, P => x.length + y.length ≤ sizeLine ∧ P (.str (x ++ y)) st
  | .tup xs, .tup ys, st, P => xs.length + ys.length ≤ sizeLine ∧ P (.tup (xs ++ ys)) st
  | .ref m, .ref n, st, P => ∃ xs ys, st[m]? = some (.lst xs) ∧ st[n]? = some (.lst ys) ∧ xs.length + ys.length ≤ sizeLine ∧ P (.ref st.length) (st ++ [.lst (xs ++ ys)])
  | _, _, _, _ => False
def onS : D → D → Sto → DP → Prop
  | .str x, .str y, st, P => x.length + y.length ≤ sizeLine ∧ P (.str (x ++ y)) st
  | _, _, _, _ => False
def onT : D → D → Sto → DP → Prop
  | .tup xs, .tup ys, st, P => xs.length + ys.length ≤ sizeLine ∧ P (.tup (xs ++ ys)) st
  | _, _, _, _ => False
def onL : D → D → Sto → DP → Prop
  | .ref m, .ref n, st, P => ∃ xs ys, st[m]? = some (.lst xs) ∧ st[n]? = some (.lst ys) ∧ xs.length + ys.length ≤ sizeLine ∧ P (.ref st.length) (st ++ [.lst (xs ++ ys)])
  | _, _, _, _ => False
theorem opd_addS : OpD X (binaryOp .Add) onS :=
  ⟨_, op_add_str, fun μ H st x y d e P Q rs r1 r2 q f => by
    cases r1 <;> try exact q.elim
    cases r2 <;> try exact q.elim
    exact ⟨_, _, rfl, rfl, q.1, f.now q.2 rs (.str _)⟩⟩
theorem opd_addT : OpD X (binaryOp .Add) onT :=
  ⟨_, op_catA, fun μ H st x y d e P Q rs r1 r2 q f => by
    cases r1 <;> try exact q.elim
    cases r2 <;> try exact q.elim
    rename_i a xs ds h1 k1 b ys es h2 k2
    have l1 := k1.length
    have l2 := k2.length
    refine ⟨_, _, _, _, rfl, rfl, h1.sqt, h2.sqt, by have := q.1; omega, fun e => ?_, fun e1 e2 => ?_, fun e1 e2 => f.tup rs (k1.append k2) q.2⟩
    · subst e
      cases k1
      exact f.now (by simpa using q.2) rs (.tup h2 k2)
    · subst e2
      cases k2
      exact f.now (by simpa using q.2) rs (.tup h1 k1)⟩
theorem opd_addL : OpD X (binaryOp .Add) onL :=
  ⟨_, op_cat, fun μ H st x y d e P Q rs r1 r2 q f => by
    cases r1 <;> try exact q.elim
    cases r2 <;> try exact q.elim
    rename_i a m h1 b n h2
    obtain ⟨xs, ys, e1, e2, z, p⟩ := q
    obtain ⟨vs, g1, k1⟩ := rs.at_ _ _ _ h1 e1
    obtain ⟨ws, g2, k2⟩ := rs.at_ _ _ _ h2 e2
    have l1 := k1.length
    have l2 := k2.length
    exact ⟨_, _, _, _, rfl, rfl, g1, g2, by omega, f.lst rs (k1.append k2) p⟩⟩
theorem opd_add : OpD X (binaryOp .Add) rAdd := by
  refine (opd_int (rI_of0 op_add)).or ((opd_addS.or (opd_addT.or opd_addL (r := fun d e st P => onT d e st P ∨ onL d e st P) fun _ _ _ _ h => h) (r := fun d e st P => onS d e st P ∨ onT d e st P ∨ onL d e st P) fun _ _ _ _ h => h)) fun d e st P h => ?_
  cases d <;> cases e <;> try exact h.elim
  · exact .inl ⟨trivial, h⟩
  · exact .inr (.inl h)
  · exact .inr (.inr (.inl h))
  · exact .inr (.inr (.inr h))
def rSub : D → D → Sto → DP → Prop := onI (fun _ _ => True) fun i j => .int (i - j)
theorem opd_sub : OpD X (binaryOp .Sub) rSub := opd_int (rI_of0 op_sub)
/-! times -/
def rMul : D → D → Sto → DP → Prop
  | .int i, .int j, st, P => CMulX i j ∧ P (.int (i * j)) st
  | .ref m, .int k, st, P => ∃ xs, st[m]? = some (.lst xs) ∧ (-(2 ^ 63) ≤ k ∧ k < 2 ^ 63 ∧ xs.length * k.toNat ≤ sizeLine) ∧ P (.ref st.length) (st ++ [.lst (List.replicate k.toNat xs).flatten])
  | .tup xs, .int k, st, P => (xs ≠ [] ∧ 0 ≤ k ∧ k ≤ 1000 ∧ xs.length ≤ 1000) ∧ P (.tup (List.replicate k.toNat xs).flatten) st
  | _, _, _, _ => False
def onR : D → D → Sto → DP → Prop
  | .ref m, .int k, st, P => ∃ xs, st[m]? = some (.lst xs) ∧ (-(2 ^ 63) ≤ k ∧ k < 2 ^ 63 ∧ xs.length * k.toNat ≤ sizeLine) ∧ P (.ref st.length) (st ++ [.lst (List.replicate k.toNat xs).flatten])
  | _, _, _, _ => False
def onRT : D → D → Sto → DP → Prop
  | .tup xs, .int k, st, P => (xs ≠ [] ∧ 0 ≤ k ∧ k ≤ 1000 ∧ xs.length ≤ 1000) ∧ P (.tup (List.replicate k.toNat xs).flatten) st
  | _, _, _, _ => False
theorem opd_rep : OpD X (binaryOp .Mult) onR :=
  ⟨_, op_rep, fun μ H st x y d e P Q rs r1 r2 q f => by
    cases r1 <;> try exact q.elim
    cases r2 <;> try exact q.elim
    rename_i a m h1 k
    obtain ⟨xs, e1, ⟨z1, z2, z3⟩, p⟩ := q
    obtain ⟨vs, g1, k1⟩ := rs.at_ _ _ _ h1 e1
    have l1 := k1.length
    exact ⟨_, _, _, rfl, rfl, g1, z1, z2, by rw [l1]; exact z3, f.lst rs (k1.rep _) p⟩⟩
theorem opd_repT : OpD X (binaryOp .Mult) onRT :=
  ⟨_, (op_repT.or op_rep0).or op_rep1, fun μ H st x y d e P Q rs r1 r2 q f => by
    cases r1 <;> try exact q.elim
    cases r2 <;> try exact q.elim
    rename_i a xs ds h1 k1 k
    obtain ⟨⟨z0, z1, z2, z3⟩, p⟩ := q
    have l1 := k1.length
    have hne : xs ≠ [] := fun e => z0 (by cases k1 <;> simp_all)
    by_cases hk : 2 ≤ k
    · exact .inl (.inl ⟨_, _, _, rfl, rfl, h1.sqt, hne, hk, z2, by omega, f.tup rs (k1.rep _) p⟩)
    · by_cases hk0 : k = 0
      · subst hk0
        exact .inl (.inr ⟨_, _, rfl, rfl, h1.sqt, hne, f.tup rs .nil (by simpa using p)⟩)
      · obtain rfl : k = 1 := by omega
        exact .inr ⟨_, _, rfl, rfl, h1.sqt, f.now (by simpa using p) rs (.tup h1 k1)⟩⟩
theorem opd_mul : OpD X (binaryOp .Mult) rMul := by
  refine (opd_int op_mulX).or (opd_rep.or opd_repT (r := fun d e st P => onR d e st P ∨ onRT d e st P) fun _ _ _ _ h => h) fun d e st P h => ?_
  cases d <;> cases e <;> try exact h.elim
  · exact .inl h
  · exact .inr (.inr h)
  · exact .inr (.inl h)
/-! //, %, ** -/
def CDv (i j : Int) : Prop := j ≠ 0 ∧ Builtin.divisionGoesByPylong i j = false
theorem cdv_small {i j : Int} (h0 : j ≠ 0) (h : j.natAbs < 2 ^ 9000) : CDv i j :=
  ⟨h0, PyProof.noPylong_of_log2 ((Nat.log2_lt (by omega)).mpr h)⟩
theorem op_fdivA : OpR X (binaryOp .FloorDiv) (rI CDv fun i j => .int (i.fdiv j)) := opI fun _ _ _ _ _ _ _ hc q => floordiv_int hc.1 q (.inl hc.2)
def rFdiv : D → D → Sto → DP → Prop := onI CDv fun i j => .int (i.fdiv j)
theorem opd_fdiv : OpD X (binaryOp .FloorDiv) rFdiv := opd_int op_fdivA
def rMod : D → D → Sto → DP → Prop := onI (fun _ j => j ≠ 0) fun i j => .int (i.fmod j)
theorem opd_mod : OpD X (binaryOp .Mod) rMod := opd_int op_modN
def rPow : D → D → Sto → DP → Prop := onI CPow fun i j => .int (i ^ j.toNat)
theorem opd_pow : OpD X (binaryOp .Pow) rPow := opd_int op_pow
def rNeg : D → Sto → DP → Prop
  | .int i, st, P => P (.int (-i)) st
  | _, _, _ => False
theorem und_neg : UnD X (unaryOp .USub) rNeg :=
  ⟨_, un_neg, fun μ H st x d P Q rs r q f => by
    cases r <;> try exact q.elim
    exact ⟨_, rfl, f.now q rs (.int _)⟩⟩
/-! order of ints -/
def rLt : D → D → Sto → DP → Prop := onI (fun _ _ => True) fun i j => .bl (decide (i < j))
def rLe : D → D → Sto → DP → Prop := onI (fun _ _ => True) fun i j => .bl (decide (i ≤ j))
def rGt : D → D → Sto → DP → Prop := onI (fun _ _ => True) fun i j => .bl (decide (j < i))
def rGe : D → D → Sto → DP → Prop := onI (fun _ _ => True) fun i j => .bl (decide (j ≤ i))
theorem opd_lt : OpD X (compareOp .Lt) rLt := opd_bool (rI_of0 op_lt)
theorem opd_le : OpD X (compareOp .LtE) rLe := opd_bool (rI_of0 op_le)
theorem opd_gt : OpD X (compareOp .Gt) rGt := opd_bool (rI_of0 op_gt)
theorem opd_ge : OpD X (compareOp .GtE) rGe := opd_bool (rI_of0 op_ge)
end
/-! ### == of data -/
def allP (f : D → Option PyData) : List D → Option (List PyData)
  | [] => some []
  | d :: ds => match f d, allP f ds with
    | some p, some ps => some (p :: ps)
    | _, _ => none
def toP (st : Sto) : Nat → D → Option PyData
  | 0, _ => none
  | n + 1, d => match d with
    | .non => some .none
    | .bl b => some (.bool b)
    | .int i => some (.int i)
    | .str x => some (.str x)
    | .tup xs => (allP (toP st n) xs).map .tuple
    | .rol xs => (allP (toP st n) xs).map .list
    | .ref k => match st[k]? with
      | some (.lst xs) => (allP (toP st n) xs).map .list
      | _ => none
    | _ => none
section
variable {X : Cx} {μ : List Addr} {H : Hp} {st : Sto}
theorem allP_ok {f : D → Option PyData} (hf : ∀ d v p, f d = some p → Rv X.K X.mg μ H v d → Dp X.K H v p) : ∀ {ds : List D} {vs : List V} {ps : List PyData}, allP f ds = some ps → Rvs X.K X.mg μ H vs ds → DpAll X.K H vs ps
  | [], _, _, e, r => by
    cases r
    have e : some [] = some _ := e
    cases e
    exact .nil
  | d :: ds, _, ps, e, r => by
    cases r with
    | cons r t =>
      unfold allP at e
      cases h1 : f d with
      | none => rw [h1] at e; cases e
      | some p =>
        cases h2 : allP f ds with
        | none => rw [h1, h2] at e; cases e
        | some qs =>
          rw [h1, h2] at e
          cases e
          exact .cons (hf d _ p h1 r) (allP_ok hf h2 t)
theorem toP_ok (rs : RS X.K X.mg μ H st) : ∀ (n : Nat) (d : D) (v : V) (p : PyData), toP st n d = some p → Rv X.K X.mg μ H v d → Dp X.K H v p
  | 0, _, _, _, e, _ => by cases e
  | n + 1, d, v, p, e, r => by
    unfold toP at e
    cases r with
    | non => cases e; exact .non
    | bl b => cases e; exact .bl b
    | int i => cases e; exact .int i
    | str x => cases e; exact .str x
    | tup h t =>
      obtain ⟨ps, e1, rfl⟩ := Option.map_eq_some_iff.mp e
      exact .tup h.sqt (allP_ok (fun d v p => toP_ok rs n d v p) e1 t)
    | rol h t =>
      obtain ⟨ps, e1, rfl⟩ := Option.map_eq_some_iff.mp e
      exact .lst h.sql (allP_ok (fun d v p => toP_ok rs n d v p) e1 t)
    | @ref a k h =>
      dsimp only at e
      cases q : st[k]? with
      | none => rw [q] at e; cases e
      | some o =>
        rw [q] at e
        cases o with
        | lst xs =>
          obtain ⟨ps, e1, rfl⟩ := Option.map_eq_some_iff.mp e
          obtain ⟨vs, h3, t⟩ := rs.at_ _ _ _ h q
          exact .lst (.of h3) (allP_ok (fun d v p => toP_ok rs n d v p) e1 t)
        | _ => cases e
    | fn _ => cases e
    | ty _ => cases e
def onD (neg : Bool) : D → D → Sto → DP → Prop := fun d e st P => ∃ p q, toP st 16 d = some p ∧ toP st 16 e = some q ∧ SeqAt.shaped p = true ∧ SeqAt.shaped q = true ∧ P (.bl (if neg then !PyData.eqv p q else PyData.eqv p q)) st
theorem opd_eqD (hu : X.A.units + 64 < cLine) : OpD X (compareOp .Eq) (onD false) :=
  ⟨_, op_eqD hu, fun μ H st x y d e P Q rs r1 r2 ⟨p, q, h1, h2, h3, h4, h5⟩ f => ⟨p, q, toP_ok rs 16 _ _ _ h1 r1, toP_ok rs 16 _ _ _ h2 r2, h3, h4, f.now h5 rs (.bl _)⟩⟩
theorem opd_neD (hu : X.A.units + 64 < cLine) : OpD X (compareOp .NotEq) (onD true) :=
  ⟨_, op_neD hu, fun μ H st x y d e P Q rs r1 r2 ⟨p, q, h1, h2, h3, h4, h5⟩ f => ⟨p, q, toP_ok rs 16 _ _ _ h1 r1, toP_ok rs 16 _ _ _ h2 r2, h3, h4, f.now h5 rs (.bl _)⟩⟩
/-- plain ones first -/
def rEq : D → D → Sto → DP → Prop
  | .int i, .int j, st, P => P (.bl (decide (i = j))) st
  | .str x, .str y, st, P => P (.bl (decide (x = y))) st
  | .bl x, .bl y, st, P => P (.bl (x == y)) st
  | d, e, st, P => onD false d e st P
def rNe : D → D → Sto → DP → Prop
  | .int i, .int j, st, P => P (.bl (!decide (i = j))) st
  | .str x, .str y, st, P => P (.bl (!decide (x = y))) st
  | .bl x, .bl y, st, P => P (.bl (!(x == y))) st
  | d, e, st, P => onD true d e st P
def onQ (neg : Bool) : D → D → Sto → DP → Prop
  | .int i, .int j, st, P => P (.bl (if neg then !decide (i = j) else decide (i = j))) st
  | .str x, .str y, st, P => P (.bl (if neg then !decide (x = y) else decide (x = y))) st
  | .bl x, .bl y, st, P => P (.bl (if neg then !(x == y) else x == y)) st
  | _, _, _, _ => False
theorem dI {i j : Int} : decide (V.int i = V.int j) = decide (i = j) := by by_cases h : i = j <;> simp [h]
theorem dS {i j : Str} : decide (V.str i = V.str j) = decide (i = j) := by by_cases h : i = j <;> simp [h]
theorem dB {i j : Bool} : decide (V.bl i = V.bl j) = (i == j) := by cases i <;> cases j <;> rfl
theorem opd_eqQ : OpD X (compareOp .Eq) (onQ false) :=
  ⟨_, op_eq, fun μ H st x y d e P Q rs r1 r2 q f => by
    cases r1 <;> try exact q.elim
    all_goals cases r2 <;> try exact q.elim
    · exact ⟨rfl, by rw [dB]; exact f.now q rs (.bl _)⟩
    · exact ⟨rfl, by rw [dI]; exact f.now q rs (.bl _)⟩
    · exact ⟨rfl, by rw [dS]; exact f.now q rs (.bl _)⟩⟩
theorem opd_neQ : OpD X (compareOp .NotEq) (onQ true) :=
  ⟨_, op_ne, fun μ H st x y d e P Q rs r1 r2 q f => by
    cases r1 <;> try exact q.elim
    all_goals cases r2 <;> try exact q.elim
    · exact ⟨rfl, by rw [dB]; exact f.now q rs (.bl _)⟩
    · exact ⟨rfl, by rw [dI]; exact f.now q rs (.bl _)⟩
    · exact ⟨rfl, by rw [dS]; exact f.now q rs (.bl _)⟩⟩
theorem opd_eq (hu : X.A.units + 64 < cLine) : OpD X (compareOp .Eq) rEq := by
  refine opd_eqQ.or (opd_eqD hu) fun d e st P h => ?_
  cases d <;> cases e <;> first | exact .inr h | exact .inl h
theorem opd_ne (hu : X.A.units + 64 < cLine) : OpD X (compareOp .NotEq) rNe := by
  refine opd_neQ.or (opd_neD hu) fun d e st P h => ?_
  cases d <;> cases e <;> first | exact .inr h | exact .inl h
/-! ### in, not in -/
def flatD : D → Bool
  | .non => true
  | .bl _ => true
  | .int _ => true
  | .str _ => true
  | _ => false
def eqF : D → D → Bool
  | .non, .non => true
  | .bl a, .bl b => a == b
  | .bl a, .int b => (if a then 1 else 0) == b
  | .int a, .bl b => a == (if b then 1 else 0)
  | .int a, .int b => a == b
  | .str a, .str b => a == b
  | _, _ => false
/-- the items of a tuple or list -/
def itemsD (st : Sto) : D → Option (List D)
  | .tup xs => some xs
  | .rol xs => some xs
  | .ref n => match st[n]? with
    | some (.lst xs) => some xs
    | _ => none
  | _ => none
theorem items_ok (rs : RS X.K X.mg μ H st) {d : D} {v : V} {ds : List D} (r : Rv X.K X.mg μ H v d) (h : itemsD st d = some ds) : ∃ a xs, v = .ref a ∧ (SqL X.K H a xs ∨ SqT X.K H a xs) ∧ Rvs X.K X.mg μ H xs ds := by
  cases r <;> try cases h
  · rename_i a xs h1 h2; exact ⟨_, _, rfl, .inr h1.sqt, h2⟩
  · rename_i a xs h1 h2; exact ⟨_, _, rfl, .inl h1.sql, h2⟩
  · rename_i a n h1
    unfold itemsD at h
    dsimp only at h
    split at h
    · rename_i xs q
      cases h
      obtain ⟨vs, h3, t⟩ := rs.at_ _ _ _ h1 q
      exact ⟨_, _, rfl, .inl (.of h3), t⟩
    · cases h
theorem flat_rv {v : V} {d : D} (r : Rv X.K X.mg μ H v d) : flatD d = true → flatV v = true := by
  cases r <;> intro h <;> first | rfl | cases h
theorem flats_rv : ∀ {vs : List V} {ds : List D}, Rvs X.K X.mg μ H vs ds → ds.all flatD = true → vs.all flatV = true
  | _, _, .nil, _ => rfl
  | _, _, .cons r t, h => by
    rw [List.all_cons, Bool.and_eq_true] at h ⊢
    exact ⟨flat_rv r h.1, flats_rv t h.2⟩
theorem eqF_rv {v u : V} {d e : D} (r : Rv X.K X.mg μ H v d) (q : Rv X.K X.mg μ H u e) (h1 : flatD d = true) (h2 : flatD e = true) : eqV v u = eqF d e := by
  cases r <;> (try cases h1) <;> cases q <;> (try cases h2) <;> rfl
theorem inV_rv {u : V} {e : D} (q : Rv X.K X.mg μ H u e) (h2 : flatD e = true) : ∀ {vs : List V} {ds : List D}, Rvs X.K X.mg μ H vs ds → ds.all flatD = true → inV u vs = ds.any fun y => eqF y e
  | _, _, .nil, _ => rfl
  | _, _, .cons r t, h => by
    rw [List.all_cons, Bool.and_eq_true] at h
    have ih := inV_rv q h2 t h.2
    unfold inV at ih ⊢
    rw [List.any_cons, List.any_cons, eqF_rv r q h.1 h2, ih]
def rInD (neg : Bool) : D → D → Sto → DP → Prop := fun d e st P => ∃ ds, itemsD st e = some ds ∧ flatD d = true ∧ ds.all flatD = true ∧ P (.bl (if neg then !(ds.any fun y => eqF y d) else ds.any fun y => eqF y d)) st
theorem opd_in : OpD X (compareOp .In) (rInD false) :=
  ⟨_, op_in_seq, fun μ H st x y d e P Q rs r1 r2 ⟨ds, h1, h2, h3, h4⟩ f => by
    obtain ⟨a, xs, rfl, hs, t⟩ := items_ok rs r2 h1
    exact ⟨_, _, rfl, hs, flat_rv r1 h2, flats_rv t h3, by rw [inV_rv r1 h2 t h3]; exact f.now h4 rs (.bl _)⟩⟩
theorem opd_notIn : OpD X (compareOp .NotIn) (rInD true) :=
  ⟨_, op_notIn_seq, fun μ H st x y d e P Q rs r1 r2 ⟨ds, h1, h2, h3, h4⟩ f => by
    obtain ⟨a, xs, rfl, hs, t⟩ := items_ok rs r2 h1
    exact ⟨_, _, rfl, hs, flat_rv r1 h2, flats_rv t h3, by rw [inV_rv r1 h2 t h3]; exact f.now h4 rs (.bl _)⟩⟩
/-! ### is None, is True -/
def nonD : D → Bool
  | .non => true
  | _ => false
def isD (neg : Bool) : D → D → Sto → DP → Prop
  | d, .non, st, P => P (.bl (if neg then !nonD d else nonD d)) st
  | .bl a, .bl b, st, P => P (.bl (if neg then !(a == b) else a == b)) st
  | _, _, _, _ => False
def isN (neg : Bool) : D → D → Sto → DP → Prop
  | d, .non, st, P => P (.bl (if neg then !nonD d else nonD d)) st
  | _, _, _, _ => False
def isB (neg : Bool) : D → D → Sto → DP → Prop
  | .bl a, .bl b, st, P => P (.bl (if neg then !(a == b) else a == b)) st
  | _, _, _, _ => False
theorem non_rv {v : V} {d : D} (r : Rv X.K X.mg μ H v d) : decide (v = .non) = nonD d := by
  cases r <;> rfl
theorem opd_isN : OpD X (compareOp .Is) (isN false) :=
  ⟨_, op_isN, fun μ H st x y d e P Q rs r1 r2 q f => by
    cases r2 <;> try exact q.elim
    exact ⟨rfl, by rw [non_rv r1]; exact f.now q rs (.bl _)⟩⟩
theorem opd_notN : OpD X (compareOp .IsNot) (isN true) :=
  ⟨_, op_notN, fun μ H st x y d e P Q rs r1 r2 q f => by
    cases r2 <;> try exact q.elim
    exact ⟨rfl, by rw [non_rv r1]; exact f.now q rs (.bl _)⟩⟩
theorem opd_isB : OpD X (compareOp .Is) (isB false) :=
  ⟨fun x y H Q => ∃ a b, x = .bl a ∧ y = .bl b ∧ Q (.bl (a == b)) H, fun pins s σ H x y v u Q I rx ry ⟨a, b, e1, e2, q⟩ => by
      subst e1 e2
      cases rx; cases ry
      exact is_bool ⟨.bl _, H, I, rfl, q⟩, fun μ H st x y d e P Q rs r1 r2 q f => by
    cases r1 <;> cases r2 <;> try exact q.elim
    exact ⟨_, _, rfl, rfl, f.now q rs (.bl _)⟩⟩
theorem opd_notB : OpD X (compareOp .IsNot) (isB true) :=
  ⟨fun x y H Q => ∃ a b, x = .bl a ∧ y = .bl b ∧ Q (.bl (!(a == b))) H, fun pins s σ H x y v u Q I rx ry ⟨a, b, e1, e2, q⟩ => by
      subst e1 e2
      cases rx; cases ry
      exact isnot_bool ⟨.bl _, H, I, rfl, q⟩, fun μ H st x y d e P Q rs r1 r2 q f => by
    cases r1 <;> cases r2 <;> try exact q.elim
    exact ⟨_, _, rfl, rfl, f.now q rs (.bl _)⟩⟩
theorem opd_is : OpD X (compareOp .Is) (isD false) := by
  refine opd_isN.or opd_isB fun d e st P h => ?_
  cases e <;> first | exact .inl h | exact .inr h | (cases d <;> first | exact .inr h | exact .inl h)
theorem opd_isnot : OpD X (compareOp .IsNot) (isD true) := by
  refine opd_notN.or opd_notB fun d e st P h => ?_
  cases e <;> first | exact .inl h | exact .inr h | (cases d <;> first | exact .inr h | exact .inl h)
end
end DX

set_option Elab.async false
set_option linter.all false
set_option maxRecDepth 100000
set_option maxHeartbeats 1000000
/-! DX, part d: built-ins, subscripts, slices, methods of built-in types. -/
namespace DX
open PySem PySem.Spec PyProof.Rows L2

/-! ### calls by values -/
abbrev RC := List D → Sto → DP → Prop
def CallD (X : Cx) (f : Value) (r : RC) : Prop :=
  ∃ R : List V → Hp → VK → Prop, CallR X f R ∧ ∀ μ H st vs ds P Q, RS X.K X.mg μ H st → Rvs X.K X.mg μ H vs ds → r ds st P → Ful X μ H P Q → R vs H Q
def wCall (r : RC) (wa : WA) : W := fun env st P => wa env st fun ds st1 => r ds st1 P
section
variable {X : Cx} {p pos : Pos} {x : Str} {e : Expr} {es : List Expr} {r : RC} {wa : WA}
theorem s_blt {id : String} (hc : CallD X (.builtin id) r) (hg : Gl X x) (hm : X.mg x = none) (hv : bootBuiltins x = some (.builtin id)) (ha : SndA X (e :: es) wa) (hn : x ≠ "__name__") (hdb : (x == ("__debug__" : Str)) = false)
    (he : starEach (e :: es) X.env = (false, eval e X.env) :: starEach es X.env) (hpl : (backTo pos (starEach es X.env)).any (·.1) = false) : Snd X (.Call (.Name x p) (e :: es) [] pos) (wCall r wa) := by
  obtain ⟨R, h1, h2⟩ := hc
  exact (pe_callB h1 hg hm hv ha hn hdb he hpl).imp fun σ H Q ⟨μ, env, st, P, rs, re, w, f⟩ => ⟨μ, env, st, _, rs, re, w, fun ds st1 vs H1 μ1 p1 s1 rs1 r1 => h2 μ1 H1 st1 vs ds P Q rs1 r1 p1 (f.then_ s1)⟩
theorem s_bty {T : String} (hc : CallD X (.type T) r) (hg : Gl X x) (hm : X.mg x = none) (hv : bootBuiltins x = some (.type T)) (ha : SndA X (e :: es) wa) (hn : x ≠ "__name__") (hdb : (x == ("__debug__" : Str)) = false)
    (he : starEach (e :: es) X.env = (false, eval e X.env) :: starEach es X.env) (hpl : (backTo pos (starEach es X.env)).any (·.1) = false) : Snd X (.Call (.Name x p) (e :: es) [] pos) (wCall r wa) := by
  obtain ⟨R, h1, h2⟩ := hc
  exact (pe_callTy h1 hg hm hv ha hn hdb he hpl).imp fun σ H Q ⟨μ, env, st, P, rs, re, w, f⟩ => ⟨μ, env, st, _, rs, re, w, fun ds st1 vs H1 μ1 p1 s1 rs1 r1 => h2 μ1 H1 st1 vs ds P Q rs1 r1 p1 (f.then_ s1)⟩
theorem CallD.or {f : Value} {r r1 r2 : RC} (h1 : CallD X f r1) (h2 : CallD X f r2) (h : ∀ ds st P, r ds st P → r1 ds st P ∨ r2 ds st P) : CallD X f r := by
  obtain ⟨R1, a1, b1⟩ := h1
  obtain ⟨R2, a2, b2⟩ := h2
  exact ⟨_, a1.or a2, fun μ H st vs ds P Q rs r1 q f => (h ds st P q).imp (fun q => b1 μ H st vs ds P Q rs r1 q f) fun q => b2 μ H st vs ds P Q rs r1 q f⟩
end
section
variable {X : Cx} {μ : List Addr} {H : Hp} {st : Sto}
/-- one argument -/
def on1 (r : D → Sto → DP → Prop) : RC
  | [d], st, P => r d st P
  | _, _, _ => False
def on2 (r : D → D → Sto → DP → Prop) : RC
  | [d, e], st, P => r d e st P
  | _, _, _ => False
theorem calld1 {f : Value} {r : D → Sto → DP → Prop} {R : List V → Hp → VK → Prop} (h : CallR X f R) (k : ∀ μ H st x d P Q, RS X.K X.mg μ H st → Rv X.K X.mg μ H x d → r d st P → Ful X μ H P Q → R [x] H Q) : CallD X f (on1 r) :=
  ⟨R, h, fun μ H st vs ds P Q rs rv q f => by
    match ds, rv with
    | [d], .cons r1 .nil => exact k μ H st _ d P Q rs r1 q f
    | [], _ => exact q.elim
    | _ :: _ :: _, _ => exact q.elim⟩
theorem calld2 {f : Value} {r : D → D → Sto → DP → Prop} {R : List V → Hp → VK → Prop} (h : CallR X f R) (k : ∀ μ H st x y d e P Q, RS X.K X.mg μ H st → Rv X.K X.mg μ H x d → Rv X.K X.mg μ H y e → r d e st P → Ful X μ H P Q → R [x, y] H Q) : CallD X f (on2 r) :=
  ⟨R, h, fun μ H st vs ds P Q rs rv q f => by
    match ds, rv with
    | [d, e], .cons r1 (.cons r2 .nil) => exact k μ H st _ _ d e P Q rs r1 r2 q f
    | [], _ => exact q.elim
    | [_], _ => exact q.elim
    | _ :: _ :: _ :: _, _ => exact q.elim⟩
/-! len -/
def rLen : D → Sto → DP → Prop
  | .str x, st, P => x.length ≤ sizeLine ∧ P (.int x.length) st
  | d, st, P => ∃ ds, itemsD st d = some ds ∧ P (.int ds.length) st
theorem cd_len : CallD X (.builtin "len") (on1 rLen) := calld1 call_len fun μ H st x d P Q rs r q f => by
  have seq : (∃ ds, itemsD st d = some ds ∧ P (.int ds.length) st) → ∃ x' n, [x] = [x'] ∧ LenV X.K x' H n ∧ Q (.int n) H := fun ⟨ds, h1, h2⟩ => by
    obtain ⟨a, xs, rfl, hs, t⟩ := items_ok rs r h1
    refine ⟨_, ds.length, rfl, ?_, f.now h2 rs (.int _)⟩
    rcases hs with hs | hs
    · exact .inl ⟨xs, hs, t.length.symm⟩
    · exact .inr ⟨xs, hs, t.length.symm⟩
  cases d <;> first
    | exact seq q
    | (cases r; exact ⟨_, _, rfl, ⟨q.1, rfl⟩, f.now q.2 rs (.int _)⟩)
/-! abs, int, max, min -/
def rAbs : D → Sto → DP → Prop
  | .int i, st, P => P (.int i.natAbs) st
  | _, _, _ => False
theorem cd_abs : CallD X (.builtin "abs") (on1 rAbs) := calld1 call_abs fun μ H st x d P Q rs r q f => by
  cases r <;> try exact q.elim
  rename_i i
  refine ⟨_, rfl, f.now (d := .int i.natAbs) q rs ?_⟩
  have e : (if i < 0 then -i else i) = (i.natAbs : Int) := by split <;> omega
  rw [e]; exact .int _
def rInt : D → Sto → DP → Prop
  | .int i, st, P => P (.int i) st
  | .bl b, st, P => P (.int (if b = true then 1 else 0)) st
  | _, _, _ => False
theorem cd_int : CallD X (.type "int") (on1 rInt) := calld1 call_int1 fun μ H st x d P Q rs r q f => by
  cases r <;> try exact q.elim
  · exact .inr ⟨_, rfl, f.now q rs (.int _)⟩
  · exact .inl ⟨_, rfl, f.now q rs (.int _)⟩
def rMax2 : D → D → Sto → DP → Prop := onI (fun _ _ => True) fun i j => .int (max i j)
def rMin2 : D → D → Sto → DP → Prop := onI (fun _ _ => True) fun i j => .int (min i j)
theorem cd_max2 (hc : X.calm = true) : CallD X (.builtin "max") (on2 rMax2) := calld2 (call_max2 hc) fun μ H st x y d e P Q rs r1 r2 q f => by
  cases r1 <;> try exact q.elim
  cases r2 <;> try exact q.elim
  rename_i i j
  refine ⟨_, _, rfl, f.now (d := .int (max i j)) q.2 rs ?_⟩
  have e : (if j > i then j else i) = max i j := by split <;> omega
  rw [e]; exact .int _
theorem cd_min2 (hc : X.calm = true) : CallD X (.builtin "min") (on2 rMin2) := calld2 (call_min2 hc) fun μ H st x y d e P Q rs r1 r2 q f => by
  cases r1 <;> try exact q.elim
  cases r2 <;> try exact q.elim
  rename_i i j
  refine ⟨_, _, rfl, f.now (d := .int (min i j)) q.2 rs ?_⟩
  have e : (if j < i then j else i) = min i j := by split <;> omega
  rw [e]; exact .int _
/-! sums, truths -/
theorem rvs_ints : ∀ {vs : List V} {ns : List Int}, Rvs X.K X.mg μ H vs (ns.map D.int) → vs = ns.map V.int
  | _, [], .nil => rfl
  | _, n :: ns, .cons r t => by cases r; rw [rvs_ints t]; rfl
theorem rvs_bls : ∀ {vs : List V} {bs : List Bool}, Rvs X.K X.mg μ H vs (bs.map D.bl) → vs = bs.map V.bl
  | _, [], .nil => rfl
  | _, n :: ns, .cons r t => by cases r; rw [rvs_bls t]; rfl
/-- a list of the store, or one that is only read -/
def listD (st : Sto) : D → Option (List D)
  | .rol xs => some xs
  | .ref n => match st[n]? with
    | some (.lst xs) => some xs
    | _ => none
  | _ => none
theorem list_ok (rs : RS X.K X.mg μ H st) {d : D} {v : V} {ds : List D} (r : Rv X.K X.mg μ H v d) (h : listD st d = some ds) : ∃ a xs, v = .ref a ∧ SqL X.K H a xs ∧ Rvs X.K X.mg μ H xs ds := by
  cases r <;> try cases h
  · rename_i a xs h1 h2; exact ⟨_, _, rfl, h1.sql, h2⟩
  · rename_i a n h1
    unfold listD at h
    dsimp only at h
    split at h
    · rename_i xs q
      cases h
      obtain ⟨vs, h3, t⟩ := rs.at_ _ _ _ h1 q
      exact ⟨_, _, rfl, .of h3, t⟩
    · cases h
def rSumD : D → Sto → DP → Prop := fun d st P => ∃ ns : List Int, listD st d = some (ns.map D.int) ∧ P (.int ns.sum) st
theorem cd_sum (hc : X.calm = true) : CallD X (.builtin "sum") (on1 rSumD) := calld1 (cr_sum hc) fun μ H st x d P Q rs r ⟨ns, h1, h2⟩ f => by
  obtain ⟨a, xs, rfl, hs, t⟩ := list_ok rs r h1
  obtain rfl := rvs_ints t
  exact ⟨_, ns, rfl, hs, f.now h2 rs (.int _)⟩
def rMaxL : D → Sto → DP → Prop := fun d st P => ∃ ns : List Int, listD st d = some (ns.map D.int) ∧ 0 < ns.length ∧ ∀ m, m ∈ ns → (∀ y, y ∈ ns → y ≤ m) → P (.int m) st
def rMinL : D → Sto → DP → Prop := fun d st P => ∃ ns : List Int, listD st d = some (ns.map D.int) ∧ 0 < ns.length ∧ ∀ m, m ∈ ns → (∀ y, y ∈ ns → m ≤ y) → P (.int m) st
theorem cd_maxL (hc : X.calm = true) : CallD X (.builtin "max") (on1 rMaxL) := calld1 (cr_max hc) fun μ H st x d P Q rs r ⟨ns, h1, h0, h2⟩ f => by
  obtain ⟨a, xs, rfl, hs, t⟩ := list_ok rs r h1
  obtain rfl := rvs_ints t
  exact ⟨_, ns, rfl, hs, h0, fun m hm hle => f.now (h2 m hm hle) rs (.int _)⟩
theorem cd_minL (hc : X.calm = true) : CallD X (.builtin "min") (on1 rMinL) := calld1 (cr_min hc) fun μ H st x d P Q rs r ⟨ns, h1, h0, h2⟩ f => by
  obtain ⟨a, xs, rfl, hs, t⟩ := list_ok rs r h1
  obtain rfl := rvs_ints t
  exact ⟨_, ns, rfl, hs, h0, fun m hm hle => f.now (h2 m hm hle) rs (.int _)⟩
/-- a plain truth -/
def truF : D → Option Bool
  | .non => some false
  | .bl b => some b
  | .int i => some (!decide (i = 0))
  | _ => none
def truFs : List D → Option (List Bool)
  | [] => some []
  | d :: ds => match truF d, truFs ds with
    | some b, some bs => some (b :: bs)
    | _, _ => none
theorem truth_plain {prog : Program} {w : World} {A : Around} : ∀ {vs : List V} {ds : List D} {its : List Value} {bs : List Bool}, Rvs X.K X.mg μ H vs ds → Vals vs its → truFs ds = some bs → its.length = bs.length ∧
    TruthOf prog w A (fun i v => its.toArray[i]? = some v) (fun i => bs.getD i false)
  | _, _, _, _, .nil, .nil, e => by cases e; exact ⟨rfl, fun i v s Q E hv => by simp at hv⟩
  | _, d :: ds, u :: its, bs, .cons r t, .cons rv tv, e => by
    unfold truFs at e
    cases h1 : truF d with
    | none => rw [h1] at e; cases e
    | some b =>
      cases h2 : truFs ds with
      | none => rw [h1, h2] at e; cases e
      | some cs =>
        rw [h1, h2] at e
        cases e
        obtain ⟨ih1, ih2⟩ := truth_plain (prog := prog) (w := w) (A := A) t tv h2
        refine ⟨by simp [ih1], fun i v s Q E hv hq => ?_⟩
        cases i with
        | zero =>
          have hv : u = v := by simpa using hv
          subst hv
          have hq : Q b s := hq
          cases r <;> try cases h1
          · cases rv; exact truthy_none hq
          · cases rv; exact wpAny_truthy_bool hq
          · obtain ⟨t, rfl⟩ := rv
            refine PySem.P.truthy_int ?_
            have e : ∀ i : Int, (i != 0) = !decide (i = 0) := fun i => by by_cases e : i = 0 <;> simp [e]
            rw [e]; exact hq
        | succ j => exact ih2 j v s Q E (by simpa using hv) (by simpa using hq)
def rAnyD (f : List Bool → Bool) : D → Sto → DP → Prop := fun d st P => ∃ ds bs, itemsD st d = some ds ∧ truFs ds = some bs ∧ P (.bl (f bs)) st
theorem iter_tup {prog : Program} {w : World} {A : Around} {E : Value → Shared → Prop} {s : Shared} {l : Addr} {items : Array Value} {Q : Value → Shared → Prop} (hl : s.heap.IsTuple l items)
    (h : ∀ s₂ : Shared, s₂ = { s with heap := s.heap.push { cls := .type "tuple_iterator", data := .fields #[.ref l, .int 0 0] } } →
      (s₂.heap.IsTupleIter s.heap.objs.size l 0 ∧ s₂.heap.IsTuple l items) → l ≠ s.heap.objs.size → Q (.ref s.heap.objs.size) s₂) : wpAny (model prog w) A (pyIter (.ref l)) Q E s := by
  have hlt : l < s.heap.objs.size := by obtain ⟨_, e, _⟩ := hl; exact Heap.lt_size e
  exact wpAny_pyIter_tuple hl (h _ rfl ⟨⟨_, Heap.get?_push_size _ rfl, rfl, rfl⟩, hl.push _⟩ (Nat.ne_of_lt hlt))
def rAnyV (K : PySem.W.Frag) (mg : Str → Option Value) (f : List Bool → Bool) : List V → Hp → VK → Prop := fun vs H Q => ∃ (a : Addr) (xs : List V) (ds : List D) (bs : List Bool) (μ : List Addr), vs = [V.ref a] ∧ (SqL K H a xs ∨ SqT K H a xs) ∧ Rvs K mg μ H xs ds ∧ truFs ds = some bs ∧ Q (.bl (f bs)) H
theorem cr_anyV (hc : X.calm = true) : CallR X (.builtin "any") (rAnyV X.K X.mg fun bs => bs.any id) := by
  intro pins s σ H vs us Q I r h
  obtain ⟨a, xs, ds, bs, μ, rfl, hs, rv, hb, q⟩ := h
  rw [Vals.ref1 r]
  rcases hs with hs | hs
  · obtain ⟨its, rw', hl, _⟩ := I.list hs
    obtain ⟨ln, tr⟩ := truth_plain (prog := X.prog) (w := X.w) (A := X.A.in1) rv rw' hb
    refine call_any_walk (iter_any hl.isList fun s₂ e2 st hne => ?_)
    subst e2
    refine ⟨_, _, _, _, _, _, _, rfl, Walks.list (A := X.A.in1) (I.ok.hd hc) _ a hne its.toArray, st, tr, fun h' tk hk => ?_⟩
    refine ⟨.bl _, H, I.kept fun b o eo => hk b o (fun hmem => ?_) (Heap.get?_push_of_some _ eo), ?_, q⟩
    · rcases List.mem_cons.mp hmem with e1 | hmem
      · exact absurd (e1 ▸ Heap.lt_size eo) (Nat.lt_irrefl _)
      · cases hmem
    · show Value.bool _ = Value.bool _
      rw [List.size_toArray, ln]; exact congrArg _ (L2.any_range bs)
  · obtain ⟨its, rw', hl, _⟩ := I.tuple hs
    obtain ⟨ln, tr⟩ := truth_plain (prog := X.prog) (w := X.w) (A := X.A.in1) rv rw' hb
    refine call_any_walk (iter_tup (show s.heap.IsTuple a its.toArray from hl) fun s₂ e2 st hne => ?_)
    subst e2
    refine ⟨_, _, _, _, _, _, _, rfl, Walks.tuple (A := X.A.in1) (I.ok.hd hc) _ a hne its.toArray, st, tr, fun h' tk hk => ?_⟩
    refine ⟨.bl _, H, I.kept fun b o eo => hk b o (fun hmem => ?_) (Heap.get?_push_of_some _ eo), ?_, q⟩
    · rcases List.mem_cons.mp hmem with e1 | hmem
      · exact absurd (e1 ▸ Heap.lt_size eo) (Nat.lt_irrefl _)
      · cases hmem
    · show Value.bool _ = Value.bool _
      rw [List.size_toArray, ln]; exact congrArg _ (L2.any_range bs)
theorem cr_allV (hc : X.calm = true) : CallR X (.builtin "all") (rAnyV X.K X.mg fun bs => bs.all id) := by
  intro pins s σ H vs us Q I r h
  obtain ⟨a, xs, ds, bs, μ, rfl, hs, rv, hb, q⟩ := h
  rw [Vals.ref1 r]
  rcases hs with hs | hs
  · obtain ⟨its, rw', hl, _⟩ := I.list hs
    obtain ⟨ln, tr⟩ := truth_plain (prog := X.prog) (w := X.w) (A := X.A.in1) rv rw' hb
    refine call_all_walk (iter_any hl.isList fun s₂ e2 st hne => ?_)
    subst e2
    refine ⟨_, _, _, _, _, _, _, rfl, Walks.list (A := X.A.in1) (I.ok.hd hc) _ a hne its.toArray, st, tr, fun h' tk hk => ?_⟩
    refine ⟨.bl _, H, I.kept fun b o eo => hk b o (fun hmem => ?_) (Heap.get?_push_of_some _ eo), ?_, q⟩
    · rcases List.mem_cons.mp hmem with e1 | hmem
      · exact absurd (e1 ▸ Heap.lt_size eo) (Nat.lt_irrefl _)
      · cases hmem
    · show Value.bool _ = Value.bool _
      rw [List.size_toArray, ln]; exact congrArg _ (L2.all_range bs)
  · obtain ⟨its, rw', hl, _⟩ := I.tuple hs
    obtain ⟨ln, tr⟩ := truth_plain (prog := X.prog) (w := X.w) (A := X.A.in1) rv rw' hb
    refine call_all_walk (iter_tup (show s.heap.IsTuple a its.toArray from hl) fun s₂ e2 st hne => ?_)
    subst e2
    refine ⟨_, _, _, _, _, _, _, rfl, Walks.tuple (A := X.A.in1) (I.ok.hd hc) _ a hne its.toArray, st, tr, fun h' tk hk => ?_⟩
    refine ⟨.bl _, H, I.kept fun b o eo => hk b o (fun hmem => ?_) (Heap.get?_push_of_some _ eo), ?_, q⟩
    · rcases List.mem_cons.mp hmem with e1 | hmem
      · exact absurd (e1 ▸ Heap.lt_size eo) (Nat.lt_irrefl _)
      · cases hmem
    · show Value.bool _ = Value.bool _
      rw [List.size_toArray, ln]; exact congrArg _ (L2.all_range bs)
theorem cd_any (hc : X.calm = true) : CallD X (.builtin "any") (on1 (rAnyD fun bs => bs.any id)) := calld1 (cr_anyV hc) fun μ H st x d P Q rs r ⟨ds, bs, h1, h2, h3⟩ f => by
  obtain ⟨a, xs, rfl, hs, t⟩ := items_ok rs r h1
  exact ⟨a, xs, ds, bs, μ, rfl, hs, t, h2, f.now h3 rs (.bl _)⟩
theorem cd_all (hc : X.calm = true) : CallD X (.builtin "all") (on1 (rAnyD fun bs => bs.all id)) := calld1 (cr_allV hc) fun μ H st x d P Q rs r ⟨ds, bs, h1, h2, h3⟩ f => by
  obtain ⟨a, xs, rfl, hs, t⟩ := items_ok rs r h1
  exact ⟨a, xs, ds, bs, μ, rfl, hs, t, h2, f.now h3 rs (.bl _)⟩
/-! tuple, list, divmod -/
def rTupleOf : D → Sto → DP → Prop := fun d st P => ∃ ds, itemsD st d = some ds ∧ P (.tup ds) st
theorem cd_tuple : CallD X (.type "tuple") (on1 rTupleOf) := calld1 call_tuple_of fun μ H st x d P Q rs r ⟨ds, h1, h2⟩ f => by
  cases r with
  | tup h t => cases h1; exact ⟨_, _, rfl, .inr ⟨h.sqt, f.now h2 rs (.tup h t)⟩⟩
  | rol h t => cases h1; exact ⟨_, _, rfl, .inl ⟨h.sql, f.tup rs t h2⟩⟩
  | @ref a n h =>
    obtain ⟨a', xs, e, hs, t⟩ := list_ok (d := .ref n) rs (.ref h) (by
      unfold itemsD at h1; unfold listD; exact h1)
    cases e
    exact ⟨_, _, rfl, .inl ⟨hs, f.tup rs t h2⟩⟩
  | _ => cases h1
def rListOf : D → Sto → DP → Prop := fun d st P => ∃ ds, itemsD st d = some ds ∧ P (.ref st.length) (st ++ [.lst ds])
theorem cd_list : CallD X (.type "list") (on1 rListOf) := calld1 call_list_of fun μ H st x d P Q rs r ⟨ds, h1, h2⟩ f => by
  obtain ⟨a, xs, rfl, hs, t⟩ := items_ok rs r h1
  exact ⟨_, _, rfl, hs, f.lst rs t h2⟩
def rDivmod : D → D → Sto → DP → Prop
  | .int i, .int j, st, P => CDivP i j ∧ P (.tup [.int (i / j), .int (i % j)]) st
  | _, _, _, _ => False
theorem cd_divmod : CallD X (.builtin "divmod") (on2 rDivmod) := calld2 call_divmodW fun μ H st x y d e P Q rs r1 r2 q f => by
  cases r1 <;> try exact q.elim
  cases r2 <;> try exact q.elim
  exact ⟨_, _, rfl, q.1, f.tup rs (.cons (.int _) (.cons (.int _) .nil)) q.2⟩
/-! isinstance -/
def tyD (st : Sto) : D → Option String
  | .non => some "NoneType"
  | .bl _ => some "bool"
  | .int _ => some "int"
  | .str _ => some "str"
  | .tup _ => some "tuple"
  | .rol _ => some "list"
  | .ref n => match st[n]? with
    | some (.lst _) => some "list"
    | some (.dic _) => some "dict"
    | _ => none
  | _ => none
theorem ty_ok (rs : RS X.K X.mg μ H st) {d : D} {v : V} {t : String} (r : Rv X.K X.mg μ H v d) (h : tyD st d = some t) : TyX X.K H v (.type t) := by
  cases r with
  | non => cases h; exact .base .non
  | bl b => cases h; exact .base (.bl b)
  | int i => cases h; exact .base (.int i)
  | str x => cases h; exact .base (.str x)
  | tup hs q =>
    cases h
    rcases hs with hs | ⟨o, its, n, h1, h2, _⟩
    · exact .base (.tup hs)
    · exact .kTuple h1 h2
  | rol hs q =>
    cases h
    rcases hs with ⟨o, hs⟩ | ⟨o, its, n, h1, h2, _⟩
    · exact .base (.frz hs)
    · exact .kList h1 h2
  | ref e =>
    unfold tyD at h
    dsimp only at h
    split at h
    · rename_i q
      cases h
      obtain ⟨vs, h3, t⟩ := rs.at_ _ _ _ e q
      exact .base (.lst h3)
    · rename_i q
      cases h
      obtain ⟨vs, h3, t⟩ := rs.at_ _ _ _ e q
      exact .base (.dK h3)
    · cases h
  | fn _ => cases h
  | ty _ => cases h
def rIsiD : D → D → Sto → DP → Prop
  | d, .ty c, st, P => ∃ t b, tyD st d = some t ∧ kitB t c = some b ∧ P (.bl b) st
  | _, _, _, _ => False
theorem cd_isi : CallD X (.builtin "isinstance") (on2 rIsiD) := calld2 call_isi fun μ H st x y d e P Q rs r1 r2 q f => by
  cases r2 <;> try exact q.elim
  obtain ⟨t, b, h1, h2, h3⟩ := q
  exact ⟨_, _, _, _, b, rfl, .ty _, ty_ok rs r1 h1, kit_ty h2, f.now h3 rs (.bl _)⟩
end

/-! ### subscripts -/
def rIdx : D → D → Sto → DP → Prop
  | .str x, .int i, st, P => x.length ≤ sizeLine ∧ ∃ c, atI x.cps.toList i = some c ∧ P (.str ⟨#[c]⟩) st
  | d, .int i, st, P => ∃ ds v, itemsD st d = some ds ∧ atI ds i = some v ∧ P v st
  | _, _, _, _ => False
section
variable {X : Cx} {μ : List Addr} {H : Hp} {st : Sto} {a b e : Expr} {wa wb : W} {pos p2 : Pos}
theorem atI_rv {xs : List V} {ds : List D} {i : Int} {d : D} (t : Rvs X.K X.mg μ H xs ds) (h : atI ds i = some d) : ∃ v, atI xs i = some v ∧ Rv X.K X.mg μ H v d := by
  unfold atI at h ⊢
  rw [t.length]
  cases q : ixN ds.length i with
  | none => rw [q] at h; cases h
  | some j =>
    rw [q] at h
    exact t.get (show ds[j]? = some d from h)
theorem idx_ok {x y : V} {d e : D} {P : DP} {Q : VK} (rs : RS X.K X.mg μ H st) (r1 : Rv X.K X.mg μ H x d) (r2 : Rv X.K X.mg μ H y e) (q : rIdx d e st P) (f : Ful X μ H P Q) : rIx X.K x y H Q := by
  have seq : ∀ i, y = .int i → (∃ ds v, itemsD st d = some ds ∧ atI ds i = some v ∧ P v st) → rIx X.K x y H Q := fun i ey ⟨ds, v, h1, h2, h3⟩ => by
    subst ey
    obtain ⟨a, xs, rfl, hs, t⟩ := items_ok rs r1 h1
    obtain ⟨u, h4, h5⟩ := atI_rv t h2
    rcases hs with hs | hs
    · exact .inl ⟨_, _, _, _, rfl, rfl, hs, h4, f.now h3 rs h5⟩
    · exact .inr (.inl ⟨_, _, _, _, rfl, rfl, hs, h4, f.now h3 rs h5⟩)
  cases e <;> try (cases d <;> exact q.elim)
  cases r2
  cases d <;> first
    | exact seq _ rfl q
    | (cases r1; exact .inr (.inr ⟨_, _, _, rfl, rfl, q.1, q.2.choose_spec.1, f.now q.2.choose_spec.2 rs (.str _)⟩))
theorem s_idx (ha : Snd X a wa) (hb : Snd X b wb) (hs : PlainIx b) : Snd X (.Subscript a b pos) (wBin rIdx wa wb) :=
  (pe_ix ix_seq ha hb hs).imp fun σ H Q ⟨μ, env, st, P, rs, re, w, f⟩ => two rs re w fun d e st' x y H' μ' p s rs' _ r1 r2 => idx_ok rs' r1 r2 p (f.then_ s)
/-! slices -/
abbrev WO := Ev → Sto → (Option Int → Sto → Prop) → Prop
def wNo : WO := fun _ st P => P none st
def wSome (w : W) : WO := fun env st P => w env st fun d st1 => ∃ i, d = .int i ∧ P (some i) st1
def tO (X : Cx) (w : WO) : TO := fun σ H Q => ∃ μ env st P, RS X.K X.mg μ H st ∧ RE X.K X.mg μ H σ env ∧ w env st P ∧
  ∀ o st' H' μ', P o st' → Stp μ H μ' H' → RS X.K X.mg μ' H' st' → Q o H'
abbrev SndO (X : Cx) (e : Option Expr) (w : WO) : Prop := PO X e (tO X w)
theorem s_noPart : SndO X none wNo := ⟨fun pins s σ H Q I ⟨μ, env, st, P, rs, re, w, f⟩ => po_none.run pins s σ H Q I (f _ _ _ μ w .refl rs)⟩
theorem s_part (h : Snd X e wa) : SndO X (some e) (wSome wa) := ⟨fun pins s σ H Q I ⟨μ, env, st, P, rs, re, w, f⟩ => (po_some h).run pins s σ H Q I
  ⟨μ, env, st, _, rs, re, w, fun d st1 v H1 μ1 ⟨i, e, p⟩ s1 rs1 r1 => by subst e; cases r1; exact ⟨i, rfl, f _ st1 H1 μ1 p s1 rs1⟩⟩⟩
def cutD {α : Type} (xs : List α) (lo hi : Option Int) : List α := (xs.drop (HT.sIx xs.length 0 lo)).take (HT.sIx xs.length xs.length hi - HT.sIx xs.length 0 lo)
def rSlc (d : D) (lo hi : Option Int) (st : Sto) (P : DP) : Prop :=
  match d with
  | .str z => z.length ≤ sizeLine ∧ P (.str (cutS z lo hi)) st
  | .tup xs => P (.tup (cutD xs lo hi)) st
  | d => ∃ ds, listD st d = some ds ∧ P (.ref st.length) (st ++ [.lst (cutD ds lo hi)])
def wSlc (wa : W) (lo hi : WO) : W := fun env st P => wa env st fun d st1 => lo env st1 fun l st2 => hi env st2 fun u st3 => rSlc d l u st3 P
theorem cutD_whole {α : Type} {xs : List α} {lo hi : Option Int} (h : HT.sIx xs.length 0 lo = 0 ∧ HT.sIx xs.length xs.length hi = xs.length) : cutD xs lo hi = xs := by
  unfold cutD
  rw [h.1, h.2]; simp
theorem cut_rvs {xs : List V} {ds : List D} {lo hi : Option Int} (t : Rvs X.K X.mg μ H xs ds) : Rvs X.K X.mg μ H (cutV xs lo hi) (cutD ds lo hi) := by
  unfold cutV cutD
  rw [t.length]
  exact (t.drop _).take _
theorem slr_all : SlR X (fun x lo hi H Q => rSlS x lo hi H Q ∨ rSlA X.K x lo hi H Q ∨ rSlL X.K x lo hi H Q) := sl_str.or (sl_tupA.or sl_list)
theorem slc_ok {x : V} {d : D} {lo hi : Option Int} {P : DP} {Q : VK} (rs : RS X.K X.mg μ H st) (r1 : Rv X.K X.mg μ H x d) (q : rSlc d lo hi st P) (f : Ful X μ H P Q) :
    rSlS x lo hi H Q ∨ rSlA X.K x lo hi H Q ∨ rSlL X.K x lo hi H Q := by
  have lst : (∃ ds, listD st d = some ds ∧ P (.ref st.length) (st ++ [.lst (cutD ds lo hi)])) → rSlL X.K x lo hi H Q := fun ⟨ds, h1, h2⟩ => by
    obtain ⟨a, xs, rfl, hs, t⟩ := list_ok rs r1 h1
    exact ⟨a, xs, rfl, hs, f.lst rs (cut_rvs t) h2⟩
  cases r1 with
  | str x => exact .inl ⟨_, rfl, q.1, f.now q.2 rs (.str _)⟩
  | tup hs t =>
    refine .inr (.inl ⟨_, _, rfl, hs.sqt, fun h => ?_, fun _ => f.tup rs (cut_rvs t) q⟩)
    rw [t.length] at h
    have q : P (.tup (cutD _ lo hi)) st := q
    rw [cutD_whole h] at q
    exact f.now q rs (.tup hs t)
  | _ => exact .inr (.inr (lst q))
theorem s_slc {lo hi : Option Expr} {wl wh : WO} (ha : Snd X e wa) (hl : SndO X lo wl) (hh : SndO X hi wh) : Snd X (.Subscript e (.Slice lo hi none p2) pos) (wSlc wa wl wh) :=
  (pe_slice slr_all ha hl hh).imp fun σ H Q ⟨μ, env, st, P, rs, re, w, f⟩ => ⟨μ, env, st, _, rs, re, w, fun d st1 v H1 μ1 p1 s1 rs1 r1 =>
    ⟨μ1, env, st1, _, rs1, re.step s1, p1, fun l st2 H2 μ2 p2 s2 rs2 => ⟨μ2, env, st2, _, rs2, (re.step s1).step s2, p2, fun u st3 H3 μ3 p3 s3 rs3 =>
      slc_ok rs3 ((r1.step s2).step s3) p3 (f.then_ ((s1.trans s2).trans s3))⟩⟩⟩

/-! ### methods of lists, ints -/
variable {o : Expr} {es : List Expr} {wo : W} {wr : WA} {apos cpos : Pos}
def wMth (r : D → List D → Sto → DP → Prop) (wo : W) (wa : WA) : W := fun env st P => wo env st fun d st1 => wa env st1 fun ds st2 => r d ds st2 P
def wBits (wo : W) : W := fun env st P => wo env st fun d st1 => ∃ i, d = .int i ∧ P (.int (Builtin.Int.intBits i : Nat)) st1
theorem s_bits (ho : Snd X o wo) (hbase : attributeBase o "bit_length" X.env (eval o X.env) = eval o X.env) (hline : (apos.endLine == pos.line) = true) : Snd X (.Call (.Attribute o "bit_length" apos) [] [] pos) (wBits wo) :=
  (pe_bits ho hbase hline).imp fun σ H Q ⟨μ, env, st, P, rs, re, w, f⟩ => ⟨μ, env, st, _, rs, re, w, fun d st1 v H1 μ1 ⟨i, e, p⟩ s1 rs1 r1 => by
    subst e; cases r1; exact ⟨i, rfl, f _ st1 _ H1 μ1 p s1 rs1 (.int _)⟩⟩
end
end DX

set_option Elab.async false
set_option linter.all false
set_option maxRecDepth 100000
set_option maxHeartbeats 2000000
/-! DX, part z: iterators of a list or of a tuple, either in each place: zip of two, enumerate. -/
namespace DX
open PySem PySem.Spec PyProof.Rows L2
/-- of a list (true), of a tuple (false) -/
def SIt (k : Bool) (h : Heap) (it l : Addr) (i : Nat) : Prop := match k with
  | true => h.IsListIter it l i
  | false => h.IsTupleIter it l i
def SIs (k : Bool) (h : Heap) (l : Addr) (xs : Array Value) : Prop := match k with
  | true => h.IsList l xs
  | false => h.IsTuple l xs
def itT (k : Bool) : String := match k with
  | true => "list_iterator"
  | false => "tuple_iterator"
section
variable {k : Bool} {h h' : Heap} {it l b : Addr} {i : Nat} {xs : Array Value}
theorem SIt.at_ (x : SIt k h it l i) (f : ∀ o, h.get? it = some o → h'.get? it = some o) : SIt k h' it l i := by
  cases k
  · exact Heap.IsTupleIter.at x f
  · exact Heap.IsListIter.at x f
theorem SIt.ext (x : SIt k h it l i) (hs : Heap.ExtBut b h h') (n : it ≠ b) : SIt k h' it l i := x.at_ fun o e => hs _ _ n e
theorem SIs.at_ (x : SIs k h l xs) (f : ∀ o, h.get? l = some o → h'.get? l = some o) : SIs k h' l xs := by
  cases k
  · obtain ⟨o, e, r⟩ := x; exact ⟨o, f _ e, r⟩
  · obtain ⟨o, e, r⟩ := x; exact ⟨o, f _ e, r⟩
theorem SIs.ext (x : SIs k h l xs) (hs : Heap.ExtBut b h h') (n : l ≠ b) : SIs k h' l xs := x.at_ fun o e => hs _ _ n e
theorem SIt.obj (x : SIt k h it l i) : ∃ o, h.get? it = some o ∧ ∀ v, o.data ≠ .cell v := by
  cases k <;> obtain ⟨o, e, _, d⟩ := x <;> exact ⟨o, e, fun v z => by rw [d] at z; cases z⟩
theorem SIt.lt (x : SIt k h it l i) : it < h.objs.size := let ⟨_, e, _⟩ := x.obj; Heap.lt_size e
theorem SIs.lt (x : SIs k h l xs) : l < h.objs.size := by
  cases k <;> obtain ⟨o, e, _⟩ := x <;> exact Heap.lt_size e
theorem SIt.new {h : Heap} {l : Addr} : SIt k (h.push { cls := .type (itT k), data := .fields #[.ref l, .int 0 0] }) h.objs.size l 0 := by
  cases k <;> exact ⟨_, Heap.get?_push_size _ rfl, rfl, rfl⟩
end
section
variable {prog : Program} {w : World} {A : Around} {E : Value → Shared → Prop} {s : Shared} {k : Bool}
theorem nextS {it l : Addr} {i : Nat} {xs : Array Value} {x : Value} {Q : Value → Shared → Prop} (hit : SIt k s.heap it l i) (hl : SIs k s.heap l xs) (hx : xs[i]? = some x)
    (q : ∀ h', SIt k h' it l (i + 1) → Heap.SameBut it s.heap h' → Q x { s with heap := h' }) : wpAny (model prog w) A (Builtin.SmallTypes.nextOf (.ref it)) Q E s := by
  cases k
  · exact RZ.nextOf_tuple_item hit hl hx q
  · exact wpAny_nextOf_list_item hit hl hx q
theorem nextS_end {it l : Addr} {i : Nat} {xs : Array Value} {Q : Value → Shared → Prop} (hh : A.handled = none) (hit : SIt k s.heap it l i) (hl : SIs k s.heap l xs) (hx : xs[i]? = none)
    (q : ∀ h' e, Heap.ExtBut it s.heap h' → (∃ o, h'.get? e = some o ∧ o.cls = .type "StopIteration") → E (.ref e) { s with heap := h' }) : wpAny (model prog w) A (Builtin.SmallTypes.nextOf (.ref it)) Q E s := by
  cases k
  · exact RZ.nextOf_tuple_end hh hit hl hx q
  · exact wpAny_nextOf_list_end hh hit hl hx q
theorem iterS {l : Addr} {xs : Array Value} {Q : Value → Shared → Prop} (hl : SIs k s.heap l xs) (q : Q (.ref s.heap.objs.size) { s with heap := s.heap.push { cls := .type (itT k), data := .fields #[.ref l, .int 0 0] } }) :
    wpAny (model prog w) A (pyIter (.ref l)) Q E s := by
  cases k
  · exact wpAny_pyIter_tuple hl q
  · exact wpAny_pyIter_list hl q

/-! ### zip of two -/
variable {k1 k2 : Bool}
theorem zipS_item {z TI TO i1 i2 l1 l2 : Addr} {n1 n2 : Nat} {xs ys : Array Value} {x y a b : Value} {Q : Option Value → Shared → Prop} (D : ZipApart z TI TO i1 i2 l1 l2) (hz : IsZip s.heap z TI TO .none)
    (hTI : IsPair s.heap TI (.ref i1) (.ref i2)) (hTO : IsPair s.heap TO a b) (h1 : SIt k1 s.heap i1 l1 n1) (h2 : SIt k2 s.heap i2 l2 n2) (hl1 : SIs k1 s.heap l1 xs) (hl2 : SIs k2 s.heap l2 ys) (hx : xs[n1]? = some x) (hy : ys[n2]? = some y)
    (hQ : ∀ h', IsZip h' z TI TO (rawInt s.heap.objs.size) → IsPair h' TO x y → SIt k1 h' i1 l1 (n1 + 1) → SIt k2 h' i2 l2 (n2 + 1) → IsPair h' s.heap.objs.size x y →
      (∀ c o, c ≠ z → c ≠ TO → c ≠ i1 → c ≠ i2 → s.heap.get? c = some o → h'.get? c = some o) → Q (some (.ref s.heap.objs.size)) { s with heap := h' }) :
    wpAny (model prog w) A (pyNext (.ref z)) Q E s := by
  have hT : s.TypeIs (.ref z) "zip" := ⟨_, hz, rfl⟩
  unfold pyNext
  refine wpAny_bind (wpAny_attempt (wpAny_callSpecial?_slot (name := Str.ofString "__next__") hT F.slot_zip_next (wpAny_call_entry F.slot_zip_next hT F.entry_zip_next ?_ (F.args_zip_next_1 _))))
  show wpAny _ _ (field (.ref z) 2 >>= _) _ _ _
  refine wpAny_bind (wpAny_field hz rfl (x := .bool false) rfl ?_)
  show wpAny _ _ (field (.ref z) 3 >>= _) _ _ _
  refine wpAny_bind (wpAny_field hz rfl (x := .ref TI) rfl (wpAny_bind (wpAny_seqItems hTI rfl ?_)))
  show wpAny _ _ (Builtin.SmallTypes.ownedTupleIsFree (.ref z) >>= _) _ _ _
  refine wpAny_bind ?_
  unfold Builtin.SmallTypes.ownedTupleIsFree
  refine wpAny_bind (wpAny_field hz rfl (x := .none) rfl (wpAny_pure ?_))
  rw [if_pos rfl]
  refine wpAny_bind (wpAny_rule (wpAny_bind (wpAny_field hz rfl (x := .ref TO) rfl (wpAny_bind (wpAny_setField_rec hz (by simp) fun g1 z1 e1 => ?_)))))
  replace z1 : IsZip g1 z TI TO .ellipsis := z1
  refine wpAny_bind ?_
  simp only [List.zipIdx_cons, List.zipIdx_nil, List.forIn_cons, List.forIn_nil]
  refine wpAny_bind (wpAny_bind (wpAny_onRaise ?_))
  show wpAny _ _ (Builtin.SmallTypes.nextOf (.ref i1) >>= _) _ _ _
  refine wpAny_bind (nextS (h1.ext e1.extBut D.i1z) (hl1.ext e1.extBut D.l1z) hx fun g2 a2 e2 => wpAny_pure ?_)
  have o2 : IsPair g2 TO a b := e2.extBut _ _ D.TOi1 (e1.extBut _ _ D.TOz hTO)
  refine wpAny_bind (wpAny_seqItems o2 rfl (wpAny_bind (wpAny_updateSeq_pair o2 fun g3 o3 e3 => ?_)))
  replace o3 : IsPair g3 TO x b := o3
  refine wpAny_bind (wpAny_letGo (wpAny_pure ?_))
  refine wpAny_bind (wpAny_bind (wpAny_onRaise ?_))
  show wpAny _ _ (Builtin.SmallTypes.nextOf (.ref i2) >>= _) _ _ _
  refine wpAny_bind (nextS (((h2.ext e1.extBut D.i2z).ext e2.extBut D.i12.symm).ext e3.extBut D.TOi2.symm) (((hl2.ext e1.extBut D.l2z).ext e2.extBut D.l2i1).ext e3.extBut D.l2TO) hy fun g4 a4 e4 => wpAny_pure ?_)
  have o4 : IsPair g4 TO x b := e4.extBut _ _ D.TOi2 o3
  refine wpAny_bind (wpAny_seqItems o4 rfl (wpAny_bind (wpAny_updateSeq_pair o4 fun g5 o5 e5 => ?_)))
  replace o5 : IsPair g5 TO x y := o5
  refine wpAny_bind (wpAny_letGo (wpAny_pure (wpAny_pure (wpAny_bind (wpAny_seqItems o5 rfl (wpAny_bind (wpAny_newTuple ?_)))))))
  have sz : g5.objs.size = s.heap.objs.size := by rw [e5.1, e4.1, e3.1, e2.1, e1.1]
  have z5 : IsZip g5 z TI TO .ellipsis := e5.extBut _ _ D.TOz.symm (e4.extBut _ _ D.i2z.symm (e3.extBut _ _ D.TOz.symm (e2.extBut _ _ D.i1z.symm z1)))
  have kk : ∀ c o, c ≠ z → c ≠ TO → c ≠ i1 → c ≠ i2 → s.heap.get? c = some o → g5.get? c = some o := fun c o c1 c2 c3 c4 e =>
    e5.extBut _ _ c2 (e4.extBut _ _ c4 (e3.extBut _ _ c2 (e2.extBut _ _ c3 (e1.extBut _ _ c1 e))))
  have b1 : SIt k1 g5 i1 l1 (n1 + 1) := ((a2.ext e3.extBut D.TOi1.symm).ext e4.extBut D.i12).ext e5.extBut D.TOi1.symm
  have b2 : SIt k2 g5 i2 l2 (n2 + 1) := a4.ext e5.extBut D.TOi2.symm
  have zl : z < g5.objs.size := Heap.lt_size z5
  show wpAny _ _ (Builtin.SmallTypes.ownedTupleHandOut (.ref z) (.ref g5.objs.size) >>= _) _ _ _
  refine wpAny_bind ?_
  unfold Builtin.SmallTypes.ownedTupleHandOut
  have z6 : IsZip (g5.push { cls := .type "tuple", data := .seq #[x, y] }) z TI TO .ellipsis := Heap.get?_push_of_some _ z5
  refine wpAny_bind (wpAny_setField_rec z6 (by simp) fun g7 z7 e7 => ?_)
  replace z7 : IsZip g7 z TI TO (rawInt g5.objs.size) := z7
  refine wpAny_setField_rec z7 (by simp) fun g8 z8 e8 => ?_
  replace z8 : IsZip g8 z TI TO (rawInt g5.objs.size) := z8
  have up : ∀ c o, c ≠ z → g5.get? c = some o → g8.get? c = some o := fun c o c1 e => e8.extBut _ _ c1 (e7.extBut _ _ c1 (Heap.get?_push_of_some _ e))
  have t8 : IsPair g8 g5.objs.size x y := e8.extBut _ _ (Nat.ne_of_gt zl) (e7.extBut _ _ (Nat.ne_of_gt zl) (Heap.get?_push_size _ rfl))
  rw [sz] at z8 t8
  refine wpAny_pure ⟨_, rfl, ?_⟩
  show wpAny _ _ (pure (some (Value.ref g5.objs.size))) _ _ _
  rw [sz]
  exact wpAny_pure (hQ g8 z8 (up _ _ D.TOz o5) (b1.at_ fun o e => up _ o D.i1z e) (b2.at_ fun o e => up _ o D.i2z e) t8 fun c o c1 c2 c3 c4 e => up c o c1 (kk c o c1 c2 c3 c4 e))
theorem zipS_end {z TI TO i1 i2 l1 l2 : Addr} {n1 n2 : Nat} {xs ys : Array Value} {a b : Value} {Q : Option Value → Shared → Prop} (hh : A.handled = none) (D : ZipApart z TI TO i1 i2 l1 l2) (hz : IsZip s.heap z TI TO .none)
    (hTI : IsPair s.heap TI (.ref i1) (.ref i2)) (hTO : IsPair s.heap TO a b) (h1 : SIt k1 s.heap i1 l1 n1) (h2 : SIt k2 s.heap i2 l2 n2) (hl1 : SIs k1 s.heap l1 xs) (hl2 : SIs k2 s.heap l2 ys) (hend : xs[n1]? = none ∨ ys[n2]? = none)
    (hQ : ∀ h', (∀ c o, c ≠ z → c ≠ TO → c ≠ i1 → c ≠ i2 → s.heap.get? c = some o → h'.get? c = some o) → Q none { s with heap := h' }) : wpAny (model prog w) A (pyNext (.ref z)) Q E s := by
  have hT : s.TypeIs (.ref z) "zip" := ⟨_, hz, rfl⟩
  unfold pyNext
  refine wpAny_bind (wpAny_attempt (wpAny_callSpecial?_slot (name := Str.ofString "__next__") hT F.slot_zip_next (wpAny_call_entry F.slot_zip_next hT F.entry_zip_next ?_ (F.args_zip_next_1 _))))
  show wpAny _ _ (field (.ref z) 2 >>= _) _ _ _
  refine wpAny_bind (wpAny_field hz rfl (x := .bool false) rfl ?_)
  show wpAny _ _ (field (.ref z) 3 >>= _) _ _ _
  refine wpAny_bind (wpAny_field hz rfl (x := .ref TI) rfl (wpAny_bind (wpAny_seqItems hTI rfl ?_)))
  show wpAny _ _ (Builtin.SmallTypes.ownedTupleIsFree (.ref z) >>= _) _ _ _
  refine wpAny_bind ?_
  unfold Builtin.SmallTypes.ownedTupleIsFree
  refine wpAny_bind (wpAny_field hz rfl (x := .none) rfl (wpAny_pure ?_))
  rw [if_pos rfl]
  refine wpAny_bind (wpAny_rule (wpAny_bind (wpAny_field hz rfl (x := .ref TO) rfl (wpAny_bind (wpAny_setField_rec hz (by simp) fun g1 z1 e1 => ?_)))))
  replace z1 : IsZip g1 z TI TO .ellipsis := z1
  refine wpAny_bind ?_
  simp only [List.zipIdx_cons, List.zipIdx_nil, List.forIn_cons, List.forIn_nil]
  refine wpAny_bind (wpAny_bind (wpAny_onRaise ?_))
  show wpAny _ _ (Builtin.SmallTypes.nextOf (.ref i1) >>= _) _ _ _
  cases hx : xs[n1]? with
  | none =>
    refine wpAny_bind (nextS_end hh (h1.ext e1.extBut D.i1z) (hl1.ext e1.extBut D.l1z) hx fun g2 e e2 ⟨oe, he, hc⟩ => ?_)
    have z2 : IsZip g2 z TI TO .ellipsis := e2 _ _ D.i1z.symm z1
    have ne : e ≠ z := fun q => by subst q; rw [z2] at he; cases he; simp at hc
    refine wpAny_setField_rec z2 (by simp) fun g3 _ e3 => ?_
    refine wpAny_bind (wpAny_isInstance (T := "StopIteration") (b := true) ⟨oe, e3.extBut _ _ ne he, hc⟩ isSubtype_stop ?_)
    exact wpAny_pure (hQ g3 fun c o c1 _ c3 _ q => e3.extBut _ _ c1 (e2 _ _ c3 (e1.extBut _ _ c1 q)))
  | some x =>
    have hy : ys[n2]? = none := hend.resolve_left (by rw [hx]; exact fun q => by cases q)
    refine wpAny_bind (nextS (h1.ext e1.extBut D.i1z) (hl1.ext e1.extBut D.l1z) hx fun g2 a2 e2 => wpAny_pure ?_)
    have o2 : IsPair g2 TO a b := e2.extBut _ _ D.TOi1 (e1.extBut _ _ D.TOz hTO)
    refine wpAny_bind (wpAny_seqItems o2 rfl (wpAny_bind (wpAny_updateSeq_pair o2 fun g3 o3 e3 => ?_)))
    refine wpAny_bind (wpAny_letGo (wpAny_pure ?_))
    refine wpAny_bind (wpAny_bind (wpAny_onRaise ?_))
    show wpAny _ _ (Builtin.SmallTypes.nextOf (.ref i2) >>= _) _ _ _
    refine wpAny_bind (nextS_end hh (((h2.ext e1.extBut D.i2z).ext e2.extBut D.i12.symm).ext e3.extBut D.TOi2.symm) (((hl2.ext e1.extBut D.l2z).ext e2.extBut D.l2i1).ext e3.extBut D.l2TO) hy fun g4 e e4 ⟨oe, he, hc⟩ => ?_)
    have z4 : IsZip g4 z TI TO .ellipsis := e4 _ _ D.i2z.symm (e3.extBut _ _ D.TOz.symm (e2.extBut _ _ D.i1z.symm z1))
    have ne : e ≠ z := fun q => by subst q; rw [z4] at he; cases he; simp at hc
    refine wpAny_setField_rec z4 (by simp) fun g5 _ e5 => ?_
    refine wpAny_bind (wpAny_isInstance (T := "StopIteration") (b := true) ⟨oe, e5.extBut _ _ ne he, hc⟩ isSubtype_stop ?_)
    exact wpAny_pure (hQ g5 fun c o c1 c2 c3 c4 q => e5.extBut _ _ c1 (e4 _ _ c4 (e3.extBut _ _ c2 (e2.extBut _ _ c3 (e1.extBut _ _ c1 q)))))
/-! making a zip -/
def zipHeap (k1 k2 : Bool) (h : Heap) (l1 l2 : Addr) : Heap :=
  ((((h.push { cls := .type (itT k1), data := .fields #[.ref l1, .int 0 0] }).push { cls := .type (itT k2), data := .fields #[.ref l2, .int 0 0] }).push { cls := .type "tuple", data := .seq #[.ref h.objs.size, .ref (h.objs.size + 1)] }).push
    { cls := .type "tuple", data := .seq #[.none, .none] }).push { cls := .type "zip", data := .fields #[.none, .bool false, .bool false, .ref (h.objs.size + 2), .ref (h.objs.size + 3)] }
theorem meets_zipS (k1 k2 : Bool) (l1 l2 : Addr) (xs ys : Array Value) :
    Meets (Builtin.«zip.__new__» ⟨[.type "zip", .ref l1, .ref l2], []⟩) (fun _ R s => SIs k1 s.heap l1 xs ∧ SIs k2 s.heap l2 ys ∧ R (.ok (.ret (.ref (s.heap.objs.size + 4)))) { s with heap := zipHeap k1 k2 s.heap l1 l2 }) :=
  .of_wp fun prog w A R s h => by
    obtain ⟨hp, g, d, tk, os⟩ := s
    obtain ⟨hl1, hl2, h⟩ := h
    have hsub := sub_zip
    have q1 : SIs k1 (Shared.heap ⟨hp, g, d, tk, os⟩) l1 xs := hl1
    have q2 : SIs k2 (Shared.heap ⟨hp.push { cls := .type (itT k1), data := .fields #[.ref l1, .int 0 0] }, g, d, tk, os⟩) l2 ys := SIs.at_ (show SIs k2 hp l2 ys from hl2) fun o e => Heap.get?_push_of_some _ e
    wp_walk using iterS q1, iterS q2
    refine ⟨_, rfl, ?_⟩
    simp only [Heap.size_push]
    exact h
theorem call_zipS {l1 l2 : Addr} {xs ys : Array Value} {Q : Value → Shared → Prop} (hl1 : SIs k1 s.heap l1 xs) (hl2 : SIs k2 s.heap l2 ys)
    (h : ∀ h', IsZip h' (s.heap.objs.size + 4) (s.heap.objs.size + 2) (s.heap.objs.size + 3) .none → IsPair h' (s.heap.objs.size + 2) (.ref s.heap.objs.size) (.ref (s.heap.objs.size + 1)) → IsPair h' (s.heap.objs.size + 3) .none .none →
      SIt k1 h' s.heap.objs.size l1 0 → SIt k2 h' (s.heap.objs.size + 1) l2 0 → (∀ c o, s.heap.get? c = some o → h'.get? c = some o) → Q (.ref (s.heap.objs.size + 4)) { s with heap := h' }) :
    wpAny (model prog w) A (call (.type "zip") [.ref l1, .ref l2]) Q E s := by
  refine callType_new F.called_zip (by decide) (F.typeCall_zip_2 _ _) (F.newCall_zip_2 _ _) (fun obj => F.args_object_init_3 obj _ _) F.entry_zip_new (meets_zipS k1 k2 l1 l2 xs ys) ⟨hl1, hl2, ?_⟩
  generalize e1 : s.heap.push { cls := .type (itT k1), data := .fields #[.ref l1, .int 0 0] } = a1
  have s1 : a1.objs.size = s.heap.objs.size + 1 := by rw [← e1]; exact Heap.size_push ..
  have g1 : a1.get? s.heap.objs.size = some { cls := .type (itT k1), data := .fields #[.ref l1, .int 0 0] } := by rw [← e1]; exact Heap.get?_push_size _ rfl
  generalize e2 : a1.push { cls := .type (itT k2), data := .fields #[.ref l2, .int 0 0] } = a2
  have s2 : a2.objs.size = s.heap.objs.size + 2 := by rw [← e2, Heap.size_push, s1]
  have g2 : a2.get? (s.heap.objs.size + 1) = some { cls := .type (itT k2), data := .fields #[.ref l2, .int 0 0] } := by rw [← e2, ← s1]; exact Heap.get?_push_size _ rfl
  generalize e3 : a2.push { cls := .type "tuple", data := .seq #[.ref s.heap.objs.size, .ref (s.heap.objs.size + 1)] } = a3
  have s3 : a3.objs.size = s.heap.objs.size + 3 := by rw [← e3, Heap.size_push, s2]
  have g3 : a3.get? (s.heap.objs.size + 2) = some { cls := .type "tuple", data := .seq #[.ref s.heap.objs.size, .ref (s.heap.objs.size + 1)] } := by rw [← e3, ← s2]; exact Heap.get?_push_size _ rfl
  generalize e4 : a3.push { cls := .type "tuple", data := .seq #[.none, .none] } = a4
  have s4 : a4.objs.size = s.heap.objs.size + 4 := by rw [← e4, Heap.size_push, s3]
  have g4 : a4.get? (s.heap.objs.size + 3) = some { cls := .type "tuple", data := .seq #[.none, .none] } := by rw [← e4, ← s3]; exact Heap.get?_push_size _ rfl
  have ez : zipHeap k1 k2 s.heap l1 l2 = a4.push { cls := .type "zip", data := .fields #[.none, .bool false, .bool false, .ref (s.heap.objs.size + 2), .ref (s.heap.objs.size + 3)] } := by
    unfold zipHeap; rw [e1, e2, e3, e4]
  have g5 : (zipHeap k1 k2 s.heap l1 l2).get? (s.heap.objs.size + 4) = some { cls := .type "zip", data := .fields #[.none, .bool false, .bool false, .ref (s.heap.objs.size + 2), .ref (s.heap.objs.size + 3)] } := by rw [ez, ← s4]; exact Heap.get?_push_size _ rfl
  have u1 : ∀ c o, s.heap.get? c = some o → a1.get? c = some o := fun c o q => by rw [← e1]; exact Heap.get?_push_of_some _ q
  have u2 : ∀ c o, a1.get? c = some o → a2.get? c = some o := fun c o q => by rw [← e2]; exact Heap.get?_push_of_some _ q
  have u3 : ∀ c o, a2.get? c = some o → a3.get? c = some o := fun c o q => by rw [← e3]; exact Heap.get?_push_of_some _ q
  have u4 : ∀ c o, a3.get? c = some o → a4.get? c = some o := fun c o q => by rw [← e4]; exact Heap.get?_push_of_some _ q
  have u5 : ∀ c o, a4.get? c = some o → (zipHeap k1 k2 s.heap l1 l2).get? c = some o := fun c o q => by rw [ez]; exact Heap.get?_push_of_some _ q
  show _ ∧ _
  refine ⟨⟨_, g5, rfl⟩, h _ g5 (u5 _ _ (u4 _ _ g3)) (u5 _ _ g4) ?_ ?_ fun c o q => u5 _ _ (u4 _ _ (u3 _ _ (u2 _ _ (u1 _ _ q))))⟩
  · exact (SIt.new (k := k1) (h := s.heap) (l := l1)).at_ fun o q => u5 _ _ (u4 _ _ (u3 _ _ (u2 _ _ (by rw [e1] at q; exact q))))
  · have z := (SIt.new (k := k2) (h := a1) (l := l2))
    rw [s1, e2] at z
    exact z.at_ fun o q => u5 _ _ (u4 _ _ (u3 _ _ q))
end
end DX

set_option Elab.async false
set_option linter.all false
set_option maxRecDepth 100000
set_option maxHeartbeats 2000000
/-! DX, part y: what zip and enumerate yield, over a list or a tuple in each place. -/
namespace DX
open PySem PySem.Spec PyProof.Rows L2
def SqK (k : Bool) (K : PySem.W.Frag) (H : Hp) (a : Addr) (xs : List V) : Prop := match k with
  | true => SqL K H a xs
  | false => SqT K H a xs
section
variable {X : Cx} {pins : List (Addr × Obj)} {σ : L2.St} {H : Hp} {s : Shared} {a : Addr} {xs ys : List V} {k : Bool}
theorem sqk_get (I : L2.Inv X pins σ H s) (h : SqK k X.K H a xs) : ∃ its : List Value, Vals xs its ∧ SIs k s.heap a its.toArray ∧ xs.length ≤ sizeLine := by
  cases k
  · obtain ⟨its, r, p, z⟩ := I.tuple h
    exact ⟨its, r, p, z⟩
  · obtain ⟨its, r, p, z⟩ := I.list h
    exact ⟨its, r, p.isList, z⟩
theorem sqk_inj (I : L2.Inv X pins σ H s) (h : SqK k X.K H a xs) (h' : SqK k X.K H a ys) : xs = ys := by
  cases k
  · exact I.tuple_inj h h'
  · exact I.list_inj h h'
end
def ItzK (k1 k2 : Bool) (K : PySem.W.Frag) (a b : Addr) : It :=
  ⟨fun i H => ∃ (xs ys : List V) (x y : V), SqK k1 K H a xs ∧ SqK k2 K H b ys ∧ xs[i]? = some x ∧ ys[i]? = some y,
    fun i H v H' => ∃ T x y, v = .ref T ∧ H T = none ∧ H' = upd H T (.tup [x, y]) ∧ (∀ xs, SqK k1 K H a xs → xs[i]? = some x) ∧ ∀ ys, SqK k2 K H b ys → ys[i]? = some y,
    fun i H => ∃ xs ys : List V, SqK k1 K H a xs ∧ SqK k2 K H b ys ∧ (xs.length ≤ i ∨ ys.length ≤ i)⟩
theorem turn_zipS {k1 k2 : Bool} {P : Program} {w : World} {K : PySem.W.Frag} {elts : List Expr} {kk : Nat} {tpos : Pos} {a b z TI TO i1 i2 : Addr} (D : ZipApart z TI TO i1 i2 a b) :
    Turn P w K (.Tuple elts kk tpos) (ItzK k1 k2 K a b) [z, TI, TO, i1, i2] z (fun i h => IsZip h z TI TO .none ∧ IsPair h TI (.ref i1) (.ref i2) ∧ (∃ x y, IsPair h TO x y) ∧ SIt k1 h i1 a i ∧ SIt k2 h i2 b i) where
  mem := by simp
  obj := fun i h st c hc => by
    obtain ⟨hz, hTI, ⟨x, y, hTO⟩, h1, h2⟩ := st
    simp only [List.mem_cons, List.not_mem_nil, or_false] at hc
    rcases hc with rfl | rfl | rfl | rfl | rfl
    · exact ⟨_, hz, fun v q => nomatch q⟩
    · exact ⟨_, hTI, fun v q => nomatch q⟩
    · exact ⟨_, hTO, fun v q => nomatch q⟩
    · exact h1.obj
    · exact h2.obj
  keep := fun i h h' st k => by
    obtain ⟨hz, hTI, ⟨x, y, hTO⟩, h1, h2⟩ := st
    exact ⟨k z (by simp) _ hz, k TI (by simp) _ hTI, ⟨x, y, k TO (by simp) _ hTO⟩, h1.at_ fun o q => k i1 (by simp) o q, h2.at_ fun o q => k i2 (by simp) o q⟩
  item := by
    intro X hP hw hK hc i pins s σ H E I hf st hg
    subst hP hw hK
    obtain ⟨hz, hTI, ⟨x0, y0, hTO⟩, h1, h2⟩ := st
    obtain ⟨xs, ys, x, y, hqx, hqy, hx, hy⟩ := hg
    obtain ⟨its, rv, p, _⟩ := sqk_get I hqx
    obtain ⟨jts, rv2, p2, _⟩ := sqk_get I hqy
    obtain ⟨u, hu, ru⟩ := rv.get hx
    obtain ⟨u2, hu2, ru2⟩ := rv2.get hy
    have hzl : z < s.heap.objs.size := Heap.lt_size hz
    refine zipS_item D hz hTI hTO h1 h2 p p2 (x := u) (y := u2) (by simpa using hu) (by simpa using hu2) fun h' z' TO' h1' h2' hT hk => ?_
    refine ⟨_, rfl, wpAny_letOwnedTupleGo_zip (s := { s with heap := h' }) z' fun h'' z'' sb => ?_⟩
    have hT2 : h''.get? s.heap.objs.size = some { cls := .type "tuple", data := .seq #[u, u2] } := (sb.2 _ (Nat.ne_of_gt hzl)).trans hT
    have new : ObjOk X.prog X.w (upd H s.heap.objs.size (.tup [x, y])) h'' s.heap.objs.size (.tup [x, y]) := ⟨by show 2 ≤ sizeLine; decide, [u, u2], .cons ru (.cons ru2 .nil), ⟨_, hT2, rfl, _, rfl⟩⟩
    have I1 : L2.Inv X pins σ (upd H s.heap.objs.size (.tup [x, y])) { s with heap := h'' } := by
      refine I.turnedNew (t' := s.toks) (ch := [z, TI, TO, i1, i2]) (fun c o hb q => ?_) hf (Nat.le_refl _) new
      simp only [List.mem_cons, List.not_mem_nil, or_false, not_or] at hb
      exact (sb.2 c hb.1).trans (hk c o hb.1 hb.2.2.1 hb.2.2.2.1 hb.2.2.2.2 q)
    refine ⟨.ref s.heap.objs.size, _, I1, rfl, ⟨_, x, y, rfl, I.hok.fresh (Nat.le_refl _), rfl, fun l hl => by rw [sqk_inj I hl hqx]; exact hx, fun l hl => by rw [sqk_inj I hl hqy]; exact hy⟩, ⟨z'', ?_, ⟨u, u2, ?_⟩, ?_, ?_⟩, fun c hcm => ?_⟩
    · exact (sb.2 _ D.TIz).trans (hk _ _ D.TIz D.TITO D.TIi1 D.TIi2 hTI)
    · exact (sb.2 _ D.TOz).trans TO'
    · exact h1'.at_ fun o q => (sb.2 _ D.i1z).trans q
    · exact h2'.at_ fun o q => (sb.2 _ D.i2z).trans q
    · have hlt : c < s.heap.objs.size := by
        simp only [List.mem_cons, List.not_mem_nil, or_false] at hcm
        rcases hcm with rfl | rfl | rfl | rfl | rfl
        · exact hzl
        · exact Heap.lt_size hTI
        · exact Heap.lt_size hTO
        · exact h1.lt
        · exact h2.lt
      rw [upd_ne (Nat.ne_of_lt hlt)]
      exact (hf c hcm).1
  done := by
    intro X hP hw hK hc i pins s σ H E I hf st hg
    subst hP hw hK
    obtain ⟨hz, hTI, ⟨x0, y0, hTO⟩, h1, h2⟩ := st
    obtain ⟨xs, ys, hqx, hqy, hend⟩ := hg
    obtain ⟨its, rv, p, _⟩ := sqk_get I hqx
    obtain ⟨jts, rv2, p2, _⟩ := sqk_get I hqy
    have l1 := rv.length
    have l2 := rv2.length
    have he : its.toArray[i]? = none ∨ jts.toArray[i]? = none := hend.imp (fun q => by simp; omega) fun q => by simp; omega
    refine zipS_end (I.ok.hd hc) D hz hTI hTO h1 h2 p p2 he fun h' hk => ⟨rfl, I.turnedL (t' := s.toks) (ch := [z, TI, TO, i1, i2]) (fun c o hb q => ?_) hf⟩
    simp only [List.mem_cons, List.not_mem_nil, or_false, not_or] at hb
    exact hk c o hb.1 hb.2.2.1 hb.2.2.2.1 hb.2.2.2.2 q
  self := fun A i s Q E st h => wpAny_pyIter_zip st.1 h
def iZipS (K : PySem.W.Frag) (ta : TA) : TI := fun σ H R => ta σ H fun vs H1 => ∃ k1 k2 a b xs ys, vs = [.ref a, .ref b] ∧ SqK k1 K H1 a xs ∧ SqK k2 K H1 b ys ∧ R (ItzK k1 k2 K a b) H1
theorem pi_zipS {X : Cx} {e e2 : Expr} {ta : TA} {p pos tpos : Pos} {elts : List Expr} {kk : Nat} (hg : Gl X "zip") (hm : X.mg "zip" = none) (ha : PA X [e, e2] ta)
    (hs : starEach [e, e2] X.env = (false, eval e X.env) :: starEach [e2] X.env) (hpl : (backTo pos (starEach [e2] X.env)).any (·.1) = false) :
    PI X (.Tuple elts kk tpos) (.Call (.Name "zip" p) [e, e2] [] pos) (iZipS X.K ta) := by
  refine ⟨fun pins s σ H R I h => ?_⟩
  refine Call_ (ld_blt I hg hm PyProof.Rows.boot_zip (PyProof.Rows.callWith_type1 (thn (ha.run pos pins s σ H _ I h) fun us s1 ⟨vs, H1, I1, r1, q1⟩ => ?_) hs hpl))
  obtain ⟨k1, k2, a, b, xs, ys, ex, hqx, hqy, q⟩ := q1
  subst ex
  obtain ⟨u, u', rfl, r, r'⟩ := vals2 r1
  cases r
  cases r'
  obtain ⟨its, rv, p1, _⟩ := sqk_get I1 hqx
  obtain ⟨jts, rv2, p2, _⟩ := sqk_get I1 hqy
  refine call_zipS p1 p2 fun h' hz hTI hTO h1 h2 hk => wpAny_pyIter_zip hz ?_
  have I2 : L2.Inv X pins σ H1 { s1 with heap := h' } := I1.kept (t' := s1.toks) hk
  refine ⟨s1.heap.objs.size + 4, [s1.heap.objs.size + 4, s1.heap.objs.size + 2, s1.heap.objs.size + 3, s1.heap.objs.size, s1.heap.objs.size + 1], _, _, H1, rfl, I2, turn_zipS (PySem.W.ktu_apart s1.heap.objs.size a b p1.lt p2.lt), ⟨hz, hTI, ⟨_, _, hTO⟩, h1, h2⟩, fun c hcm => ?_, q⟩
  have hle : s1.heap.objs.size ≤ c := by
    simp only [List.mem_cons, List.not_mem_nil, or_false] at hcm
    rcases hcm with h | h | h | h | h <;> rw [h] <;> first | exact Nat.le_refl _ | exact Nat.le_add_right _ _
  exact I1.fpOk hle (I1.hok.fresh hle)

/-! ### enumerate -/
section
variable {prog : Program} {w : World} {A : Around} {E : Value → Shared → Prop} {s : Shared} {k : Bool}
theorem enumS_item {e it l : Addr} {i : Nat} {xs : Array Value} {x old : Value} {Q : Option Value → Shared → Prop} (he : IsEnum s.heap e it i old) (hit : SIt k s.heap it l i) (hl : SIs k s.heap l xs) (hx : xs[i]? = some x) (hne : e ≠ it)
    (hQ : ∀ h', IsEnumOut h' e it ((i : Int) + 1) x s.heap.objs.size → SIt k h' it l (i + 1) → h'.get? s.heap.objs.size = some { cls := .type "tuple", data := .seq #[.int i s.toks, x] } →
      (∀ b o, b ≠ e → b ≠ it → s.heap.get? b = some o → h'.get? b = some o) → Q (some (.ref s.heap.objs.size)) { s with heap := h', toks := s.toks + 1 }) : wpAny (model prog w) A (pyNext (.ref e)) Q E s := by
  have hT : s.TypeIs (.ref e) "enumerate" := ⟨_, he, rfl⟩
  unfold pyNext
  refine wpAny_bind (wpAny_attempt (wpAny_callSpecial?_slot (name := Str.ofString "__next__") hT F.slot_enumerate_next (wpAny_call_entry F.slot_enumerate_next hT F.entry_enumerate_next ?_ (F.args_enumerate_next_1 _))))
  obtain ⟨hp, g, d, tk, os⟩ := s
  show wpAny _ _ (field (.ref e) 2 >>= _) _ _ _
  refine wpAny_bind (wpAny_field he rfl (x := .ref it) rfl (wpAny_bind (nextS hit hl hx fun a1 t1 e1 => ?_)))
  replace e1 : Heap.SameBut it hp a1 := e1
  have b1 : IsEnum a1 e it i old := (e1.2 e hne).trans he
  show wpAny _ _ (field (.ref e) 3 >>= _) _ _ ⟨a1, g, d, tk, os⟩
  refine wpAny_bind (wpAny_field b1 rfl (x := rawInt i) rfl ?_)
  show wpAny _ _ (field (.ref e) 4 >>= _) _ _ ⟨a1, g, d, tk, os⟩
  refine wpAny_bind (wpAny_field b1 rfl (x := .none) rfl ?_)
  show wpAny _ _ (mkInt i >>= _) _ _ ⟨a1, g, d, tk, os⟩
  refine wpAny_bind (wpAny_mkInt ?_)
  show wpAny _ _ (setField (.ref e) 3 (rawInt ((i : Int) + 1)) >>= _) _ _ ⟨a1, g, d, tk + 1, os⟩
  refine wpAny_bind (wpAny_setField_rec b1 (by simp) fun a2 b2 e2 => ?_)
  replace e2 : Heap.SameBut e a1 a2 := e2
  replace b2 : IsEnum a2 e it ((i : Int) + 1) old := b2
  show wpAny _ _ (setField (.ref e) 4 .none >>= _) _ _ ⟨a2, g, d, tk + 1, os⟩
  refine wpAny_bind (wpAny_setField_rec b2 (by simp) fun a3 b3 e3 => ?_)
  replace e3 : Heap.SameBut e a2 a3 := e3
  replace b3 : IsEnum a3 e it ((i : Int) + 1) old := b3
  show wpAny _ _ (newTuple [.int i tk, x] >>= _) _ _ ⟨a3, g, d, tk + 1, os⟩
  refine wpAny_bind (wpAny_newTuple ?_)
  have sz : a3.objs.size = hp.objs.size := by rw [e3.1, e2.1, e1.1]
  have el : e < hp.objs.size := Heap.lt_size he
  obtain ⟨a4, h4⟩ : ∃ a4, a4 = a3.push { cls := .type "tuple", data := .seq #[.int i tk, x] } := ⟨_, rfl⟩
  have b4 : IsEnum a4 e it ((i : Int) + 1) old := by rw [h4]; exact Heap.get?_push_of_some _ b3
  have t4 : a4.get? hp.objs.size = some { cls := .type "tuple", data := .seq #[.int i tk, x] } := by rw [h4, ← sz]; exact Heap.get?_push_size _ rfl
  have k4 : ∀ b o, b ≠ e → b ≠ it → hp.get? b = some o → a4.get? b = some o := fun b o n1 n2 q => by
    rw [h4]; exact Heap.get?_push_of_some _ (e3.extBut b o n1 (e2.extBut b o n1 (e1.extBut b o n2 q)))
  have i4 : SIt k a4 it l (i + 1) := by
    rw [h4]; exact ((t1.ext e2.extBut (Ne.symm hne)).ext e3.extBut (Ne.symm hne)).at_ fun o q => Heap.get?_push_of_some _ q
  show wpAny _ _ (Builtin.SmallTypes.ownedTupleIsFree (.ref e) >>= _) _ _ ⟨a3.push { cls := .type "tuple", data := .seq #[.int i tk, x] }, g, d, tk + 1, os⟩
  rw [← h4, sz]
  clear h4 b3 e3 b2 e2 b1 e1 t1 sz a3 a2 a1
  refine wpAny_bind ?_
  unfold Builtin.SmallTypes.ownedTupleIsFree
  refine wpAny_bind (wpAny_field b4 rfl (x := .none) rfl (wpAny_pure ?_))
  rw [if_pos rfl]
  refine wpAny_bind (wpAny_rule (wpAny_bind (wpAny_field b4 rfl (x := old) rfl (wpAny_bind (wpAny_setField_rec b4 (by simp) fun a5 b5 e5 => ?_)))))
  replace e5 : Heap.SameBut e a4 a5 := e5
  replace b5 : IsEnum a5 e it ((i : Int) + 1) x := b5
  show wpAny _ _ (Builtin.SmallTypes.ownedTupleHandOut (.ref e) (.ref hp.objs.size) >>= _) _ _ ⟨a5, g, d, tk + 1, os⟩
  refine wpAny_bind ?_
  unfold Builtin.SmallTypes.ownedTupleHandOut
  refine wpAny_bind (wpAny_setField_rec b5 (by simp) fun a6 b6 e6 => ?_)
  replace e6 : Heap.SameBut e a5 a6 := e6
  replace b6 : IsEnumOut a6 e it ((i : Int) + 1) x hp.objs.size := b6
  refine wpAny_setField_rec b6 (by simp) fun a7 b7 e7 => ?_
  replace e7 : Heap.SameBut e a6 a7 := e7
  replace b7 : IsEnumOut a7 e it ((i : Int) + 1) x hp.objs.size := b7
  have up : ∀ b o, b ≠ e → a4.get? b = some o → a7.get? b = some o := fun b o n q => e7.extBut b o n (e6.extBut b o n (e5.extBut b o n q))
  refine wpAny_bind (wpAny_letGo (wpAny_pure ⟨_, rfl, wpAny_pure (hQ a7 b7 (i4.at_ fun o q => up _ o (Ne.symm hne) q) (up _ _ (Nat.ne_of_gt el) t4) fun b o n1 n2 q => up b o n1 (k4 b o n1 n2 q))⟩))
theorem enumS_end {e it l : Addr} {i : Nat} {xs : Array Value} {old : Value} {Q : Option Value → Shared → Prop} (hh : A.handled = none) (he : IsEnum s.heap e it i old) (hit : SIt k s.heap it l i) (hl : SIs k s.heap l xs) (hx : xs[i]? = none)
    (hQ : ∀ h', Heap.ExtBut it s.heap h' → Q none { s with heap := h' }) : wpAny (model prog w) A (pyNext (.ref e)) Q E s := by
  have hT : s.TypeIs (.ref e) "enumerate" := ⟨_, he, rfl⟩
  unfold pyNext
  refine wpAny_bind (wpAny_attempt (wpAny_callSpecial?_slot (name := Str.ofString "__next__") hT F.slot_enumerate_next (wpAny_call_entry F.slot_enumerate_next hT F.entry_enumerate_next ?_ (F.args_enumerate_next_1 _))))
  show wpAny _ _ (field (.ref e) 2 >>= _) _ _ _
  refine wpAny_bind (wpAny_field he rfl (x := .ref it) rfl (wpAny_bind (nextS_end hh hit hl hx fun h' x he' ⟨o, ho, hc⟩ => ?_)))
  exact wpAny_bind (wpAny_isInstance (T := "StopIteration") (b := true) ⟨o, ho, hc⟩ isSubtype_stop (wpAny_pure (hQ _ he')))
theorem meets_enumS (k : Bool) (l : Addr) (xs : Array Value) :
    Meets (Builtin.«enumerate.__new__» ⟨[.type "enumerate", .ref l], []⟩) (fun _ R s => SIs k s.heap l xs ∧
      R (.ok (.ret (.ref (s.heap.objs.size + 1)))) { s with heap := (s.heap.push { cls := .type (itT k), data := .fields #[.ref l, .int 0 0] }).push { cls := .type "enumerate", data := .fields #[.none, .bool false, .ref s.heap.objs.size, rawInt 0, .none, .none] } }) :=
  .of_wp fun prog w A R s h => by
    obtain ⟨hp, g, d, tk, os⟩ := s
    obtain ⟨hl, h⟩ := h
    have hsub := sub_enumerate
    have q1 : SIs k (Shared.heap ⟨hp, g, d, tk, os⟩) l xs := hl
    have fin : ∀ z : Nat, z = hp.objs.size + 1 → R (.ok (.ret (.ref z))) ⟨(hp.push { cls := .type (itT k), data := .fields #[.ref l, .int 0 0] }).push { cls := .type "enumerate", data := .fields #[.none, .bool false, .ref hp.objs.size, rawInt 0, .none, .none] }, g, d, tk, os⟩ := fun z e => by subst e; exact h
    cases k
    all_goals
      obtain ⟨⟨c, dct, dt, sl⟩, hl1, hc, n, hd⟩ := q1
      wp_walk using AutoSeq1.wpAny_loadPart' hl1, iterS hl
      refine wpAny_stack_any fun st => wpAny_pure ?_
      split
      · rename_i c' _ _ _ _ _
        cases (c' == Value.type "enumerate")
        all_goals
          wp_walk using AutoSeq1.wpAny_loadPart' hl1, iterS hl
          exact ⟨_, rfl, fin _ (Heap.size_push ..)⟩
      · wp_walk using AutoSeq1.wpAny_loadPart' hl1, iterS hl
        exact ⟨_, rfl, fin _ (Heap.size_push ..)⟩
theorem call_enumS {l : Addr} {xs : Array Value} {Q : Value → Shared → Prop} (hL : SIs k s.heap l xs)
    (h : ∀ h', IsEnum h' (s.heap.objs.size + 1) s.heap.objs.size 0 .none → SIt k h' s.heap.objs.size l 0 → (∀ b o, s.heap.get? b = some o → h'.get? b = some o) → Q (.ref (s.heap.objs.size + 1)) { s with heap := h' }) :
    wpAny (model prog w) A (call (.type "enumerate") [.ref l]) Q E s := by
  refine callType_new F.called_enumerate (by decide) (F.typeCall_enumerate_1 _) (F.newCall_enumerate_1 _) (fun obj => F.args_object_init_2 obj _) F.entry_enumerate_new (meets_enumS k l xs) ⟨hL, ?_⟩
  have hz : (s.heap.push { cls := .type (itT k), data := .fields #[.ref l, .int 0 0] }).objs.size = s.heap.objs.size + 1 := Heap.size_push ..
  have g1 := Heap.get?_push_size (s.heap.push { cls := .type (itT k), data := .fields #[.ref l, .int 0 0] }) (o := { cls := .type "enumerate", data := .fields #[.none, .bool false, .ref s.heap.objs.size, rawInt 0, .none, .none] }) rfl
  rw [hz] at g1
  show _ ∧ _
  exact ⟨⟨_, g1, rfl⟩, h _ g1 ((SIt.new (k := k)).at_ fun o q => Heap.get?_push_of_some _ q) fun b o q => Heap.get?_push_of_some _ (Heap.get?_push_of_some _ q)⟩
end
def IteK (k : Bool) (K : PySem.W.Frag) (a : Addr) : It :=
  ⟨fun i H => ∃ (xs : List V) (x : V), SqK k K H a xs ∧ xs[i]? = some x, fun i H v H' => ∃ T x, v = .ref T ∧ H T = none ∧ H' = upd H T (.tup [.int (i : Nat), x]) ∧ ∀ xs, SqK k K H a xs → xs[i]? = some x,
    fun i H => ∃ xs : List V, SqK k K H a xs ∧ xs.length ≤ i⟩
theorem turn_enumS {k : Bool} {P : Program} {w : World} {K : PySem.W.Frag} {elts : List Expr} {kk : Nat} {tpos : Pos} (a e it : Addr) :
    Turn P w K (.Tuple elts kk tpos) (IteK k K a) [e, it] e (fun i h => (∃ old, IsEnum h e it ((i : Nat) : Int) old) ∧ SIt k h it a i ∧ e ≠ it) where
  mem := by simp
  obj := fun i h st b hb => by
    obtain ⟨⟨old, he⟩, h1, _⟩ := st
    simp only [List.mem_cons, List.not_mem_nil, or_false] at hb
    rcases hb with rfl | rfl
    · exact ⟨_, he, fun v q => nomatch q⟩
    · exact h1.obj
  keep := fun i h h' st k => let ⟨⟨old, he⟩, hi, hne⟩ := st; ⟨⟨old, k e (by simp) _ he⟩, hi.at_ fun o q => k it (by simp) o q, hne⟩
  item := by
    intro X hP hw hK hc i pins s σ H E I hf st hg
    subst hP hw hK
    obtain ⟨⟨old, he⟩, hit, hne⟩ := st
    obtain ⟨xs, x, hq, hx⟩ := hg
    obtain ⟨its, rv, p, hz⟩ := sqk_get I hq
    obtain ⟨u, hu, ru⟩ := rv.get hx
    have hel : e < s.heap.objs.size := Heap.lt_size he
    refine enumS_item he hit p (x := u) (by simpa using hu) hne fun h' ho hit' hT hk => ?_
    refine ⟨_, rfl, wpAny_letOwnedTupleGo_enum (s := { s with heap := h', toks := s.toks + 1 }) ho fun h'' he' sb => ?_⟩
    have hT2 : h''.get? s.heap.objs.size = some { cls := .type "tuple", data := .seq #[.int i s.toks, u] } := (sb.2 _ (Nat.ne_of_gt hel)).trans hT
    have new : ObjOk X.prog X.w (upd H s.heap.objs.size (.tup [.int (i : Nat), x])) h'' s.heap.objs.size (.tup [.int (i : Nat), x]) :=
      ⟨by show 2 ≤ sizeLine; decide, [.int i s.toks, u], .cons ⟨_, rfl⟩ (.cons ru .nil), ⟨_, hT2, rfl, _, rfl⟩⟩
    have I1 : L2.Inv X pins σ (upd H s.heap.objs.size (.tup [.int (i : Nat), x])) { s with heap := h'', toks := s.toks + 1 } := by
      refine I.turnedNew (ch := [e, it]) (fun b ob hb q => ?_) hf (Nat.le_refl _) new
      simp only [List.mem_cons, List.not_mem_nil, or_false, not_or] at hb
      exact (sb.2 b hb.1).trans (hk b ob hb.1 hb.2 q)
    refine ⟨.ref s.heap.objs.size, _, I1, rfl, ⟨_, x, rfl, I.hok.fresh (Nat.le_refl _), rfl, fun ys hy => by rw [sqk_inj I hy hq]; exact hx⟩, ⟨⟨u, ?_⟩, hit'.at_ fun o q => (sb.2 it (Ne.symm hne)).trans q, hne⟩, fun b hb => ?_⟩
    · have e1 : ((i + 1 : Nat) : Int) = (i : Int) + 1 := by omega
      rw [e1]; exact he'
    · have hb' : b < s.heap.objs.size := by
        simp only [List.mem_cons, List.not_mem_nil, or_false] at hb
        rcases hb with rfl | rfl
        · exact hel
        · exact hit.lt
      rw [upd_ne (Nat.ne_of_lt hb')]
      exact (hf b hb).1
  done := by
    intro X hP hw hK hc i pins s σ H E I hf st hg
    subst hP hw hK
    obtain ⟨⟨old, he⟩, hit, hne⟩ := st
    obtain ⟨xs, hq, hx⟩ := hg
    obtain ⟨its, rv, p, hz⟩ := sqk_get I hq
    obtain ⟨f0, f1, f2, f3, f4, f5⟩ := hf it (by simp)
    have hl := rv.length
    exact enumS_end (I.ok.hd hc) he hit p (by simp; omega) fun h' eb => ⟨rfl, I.turned (t' := s.toks) (fun b o hb q => eb b o hb q) f0 f1 f3 f4 f5⟩
  self := fun A i s Q E st h => let ⟨⟨_, he⟩, _⟩ := st; wpAny_pyIter_enum he h
def iEnumS (K : PySem.W.Frag) (ta : TA) : TI := fun σ H R => ta σ H fun vs H1 => ∃ k a xs, vs = [.ref a] ∧ SqK k K H1 a xs ∧ R (IteK k K a) H1
theorem pi_enumS {X : Cx} {e : Expr} {ta : TA} {p pos tpos : Pos} {elts : List Expr} {kk : Nat} (hg : Gl X "enumerate") (hm : X.mg "enumerate" = none) (ha : PA X [e] ta) (hs : starEach [e] X.env = (false, eval e X.env) :: starEach [] X.env) :
    PI X (.Tuple elts kk tpos) (.Call (.Name "enumerate" p) [e] [] pos) (iEnumS X.K ta) := by
  refine ⟨fun pins s σ H R I h => ?_⟩
  refine Call_ (ld_blt I hg hm boot_enumerate (PyProof.Rows.callWith_type1 (thn (ha.run pos pins s σ H _ I h) fun us s1 ⟨vs, H1, I1, r1, q1⟩ => ?_) hs rfl))
  obtain ⟨k, a, xs, ex, hq, q⟩ := q1
  subst ex
  obtain ⟨u, rfl, r⟩ := vals1 r1
  cases r
  obtain ⟨its, rv, p', hz⟩ := sqk_get I1 hq
  refine call_enumS p' fun h' he hit hk => wpAny_pyIter_enum he ?_
  have I2 : L2.Inv X pins σ H1 { s1 with heap := h' } := I1.kept (t' := s1.toks) hk
  refine ⟨s1.heap.objs.size + 1, [s1.heap.objs.size + 1, s1.heap.objs.size], _, _, H1, rfl, I2, turn_enumS a (s1.heap.objs.size + 1) s1.heap.objs.size, ⟨⟨.none, he⟩, hit, Nat.succ_ne_self _⟩, fun b hb => ?_, q⟩
  have hle : s1.heap.objs.size ≤ b := by
    simp only [List.mem_cons, List.not_mem_nil, or_false] at hb
    rcases hb with h | h <;> rw [h] <;> first | exact Nat.le_refl _ | exact Nat.le_add_right _ _
  exact I1.fpOk hle (I1.hok.fresh hle)
end DX

set_option Elab.async false
set_option linter.all false
set_option maxRecDepth 100000
set_option maxHeartbeats 2000000
/-! DX, part e: what is walked, targets, statements, loops, comprehensions. -/
namespace DX
open PySem PySem.Spec PyProof.Rows L2

/-! ### what is walked: its items, and what must stay so -/
structure DI where
  items : List D
  ok : Sto → Prop
abbrev WI := Ev → Sto → (DI → Sto → Prop) → Prop
/-- an iterator yields the items -/
def JOk (X : Cx) (J : It) (di : DI) (μ : List Addr) (H : Hp) : Prop := ∀ μ2 H2 st2 i, Stp μ H μ2 H2 → RS X.K X.mg μ2 H2 st2 → di.ok st2 →
  (∀ d, di.items[i]? = some d → J.go i H2 ∧ ∀ x H3, J.yld i H2 x H3 → Stp μ2 H2 μ2 H3 ∧ RS X.K X.mg μ2 H3 st2 ∧ Rv X.K X.mg μ2 H3 x d) ∧ (di.items.length ≤ i → J.stop i H2)
def tI (X : Cx) (w : WI) : TI := fun σ H R => ∃ μ env st P, RS X.K X.mg μ H st ∧ RE X.K X.mg μ H σ env ∧ w env st P ∧
  ∀ di st' H' μ' J, P di st' → Stp μ H μ' H' → RS X.K X.mg μ' H' st' → JOk X J di μ' H' → R J H'
abbrev SndI (X : Cx) (tg e : Expr) (w : WI) : Prop := PI X tg e (tI X w)
theorem piImp {X : Cx} {tg e : Expr} {t t' : TI} (h : PI X tg e t) (i : ∀ σ H R, t' σ H R → t σ H R) : PI X tg e t' := ⟨fun pins s σ H R I q => h.run pins s σ H R I (i σ H R q)⟩
/-- the items of a value: a list may not change meanwhile -/
def strItems (z : Str) : List D := z.cps.toList.map fun c => D.str ⟨#[c]⟩
def diOf (st : Sto) : D → Option DI
  | .tup xs => some ⟨xs, fun _ => True⟩
  | .rol xs => some ⟨xs, fun _ => True⟩
  | .str z => some ⟨strItems z, fun _ => True⟩
  | .ref n => match st[n]? with
    | some (.lst xs) => some ⟨xs, fun s => s[n]? = some (.lst xs)⟩
    | _ => none
  | _ => none
def wIter (w : W) : WI := fun env st P => w env st fun d st1 => ∃ di, diOf st1 d = some di ∧ P di st1
section
variable {X : Cx} {tg e : Expr} {μ : List Addr} {H : Hp} {st : Sto}
/-- a list, a tuple: what is read at each turn -/
theorem seq_di (rs : RS X.K X.mg μ H st) {d : D} {v : V} {di : DI} (r : Rv X.K X.mg μ H v d) (h : diOf st d = some di) (hs : ∀ z, d ≠ .str z) :
    ∃ k a, v = .ref a ∧ (∃ xs, SqK k X.K H a xs) ∧ ∀ μ2 H2 st2, Stp μ H μ2 H2 → RS X.K X.mg μ2 H2 st2 → di.ok st2 → ∃ xs, SqK k X.K H2 a xs ∧ Rvs X.K X.mg μ2 H2 xs di.items := by
  cases r with
  | str z => exact absurd rfl (hs z)
  | tup hq t => cases h; exact ⟨false, _, rfl, ⟨_, hq.sqt⟩, fun μ2 H2 st2 s rs2 _ => ⟨_, (s.sqt hq).sqt, t.step s⟩⟩
  | rol hq t => cases h; exact ⟨true, _, rfl, ⟨_, hq.sql⟩, fun μ2 H2 st2 s rs2 _ => ⟨_, (s.sqr hq).sql, t.step s⟩⟩
  | @ref a n hn =>
    unfold diOf at h
    dsimp only at h
    split at h
    · rename_i xs q
      cases h
      obtain ⟨vs, h1, t⟩ := rs.at_ _ _ _ hn q
      refine ⟨true, _, rfl, ⟨_, .of h1⟩, fun μ2 H2 st2 s rs2 ok => ?_⟩
      obtain ⟨vs2, h2, t2⟩ := rs2.at_ _ _ _ (s.get hn) ok
      exact ⟨_, .of h2, t2⟩
    · cases h
  | _ => cases h
def itlK (k : Bool) (K : PySem.W.Frag) (a : Addr) : It := match k with
  | true => Itl K a
  | false => Itt K a
theorem jok_seq {k : Bool} {a : Addr} {di : DI} (h : ∀ μ2 H2 st2, Stp μ H μ2 H2 → RS X.K X.mg μ2 H2 st2 → di.ok st2 → ∃ xs, SqK k X.K H2 a xs ∧ Rvs X.K X.mg μ2 H2 xs di.items) :
    JOk X (itlK k X.K a) di μ H := fun μ2 H2 st2 i s rs ok => by
  obtain ⟨xs, hq, t⟩ := h μ2 H2 st2 s rs ok
  cases k
  · refine ⟨fun d hd => ?_, fun hl => ⟨xs, hq, by rw [t.length]; exact hl⟩⟩
    obtain ⟨x, hx, rx⟩ := t.get hd
    refine ⟨⟨xs, x, hq, hx⟩, fun x' H3 ⟨e, f⟩ => ?_⟩
    subst e
    have f' := f xs hq
    rw [hx] at f'
    cases f'
    exact ⟨.refl, rs, rx⟩
  · refine ⟨fun d hd => ?_, fun hl => ⟨xs, hq, by rw [t.length]; exact hl⟩⟩
    obtain ⟨x, hx, rx⟩ := t.get hd
    refine ⟨⟨xs, x, hq, hx⟩, fun x' H3 ⟨e, f⟩ => ?_⟩
    subst e
    have f' := f xs hq
    rw [hx] at f'
    cases f'
    exact ⟨.refl, rs, rx⟩
theorem jok_str (z : Str) : JOk X (Its z) ⟨strItems z, fun _ => True⟩ μ H := fun μ2 H2 st2 i s rs _ => by
  refine ⟨fun d hd => ?_, fun hl => by show z.cps.size ≤ i; simpa [strItems] using hl⟩
  have hd : (z.cps.toList.map fun c => D.str ⟨#[c]⟩)[i]? = some d := hd
  rw [List.getElem?_map] at hd
  obtain ⟨c, hc, rfl⟩ := Option.map_eq_some_iff.mp hd
  have hi : i < z.cps.size := by
    have := (List.getElem?_eq_some_iff.mp hc).1
    simpa using this
  refine ⟨hi, fun x H3 ⟨e, c', hc', ex⟩ => ?_⟩
  subst e ex
  have : c' = c := by
    have h1 : z.cps.toList[i]? = some c' := by simpa using hc'
    rw [hc] at h1; cases h1; rfl
  subst this
  exact ⟨.refl, rs, .str _⟩
/-- a list, a tuple or a text as its value comes -/
def iAny (K : PySem.W.Frag) (te : TE) : TI := fun σ H R => te σ H fun x H1 => (∃ k a, x = .ref a ∧ (∃ xs, SqK k K H1 a xs) ∧ R (itlK k K a) H1) ∨ ∃ z, x = .str z ∧ R (Its z) H1
theorem pi_any {te : TE} (he : PE X e te) : PI X tg e (iAny X.K te) := by
  refine ⟨fun pins s σ H R I h => ?_⟩
  refine thn (he.run pins s σ H _ I h) fun v s1 ⟨x, H1, I1, r1, q1⟩ => ?_
  rcases q1 with ⟨k, a, e, ⟨xs, hq⟩, q⟩ | ⟨z, e, q⟩
  · subst e
    cases r1
    obtain ⟨its, rv, p, hz⟩ := sqk_get I1 hq
    cases k
    · exact wpAny_pyIter_tuple p (pi_one (tk := s1.toks) I1 _ (turn_tuple a _) ⟨_, Heap.get?_push_size _ rfl, rfl, rfl⟩ q)
    · exact wpAny_pyIter_list p (pi_one (tk := s1.toks) I1 _ (turn_list a _) ⟨_, Heap.get?_push_size _ rfl, rfl, rfl⟩ q)
  · subst e
    obtain ⟨t, rfl⟩ := r1
    cases ha : z.cps.all (· < 128)
    · exact wpAny_pyIter_wide ha (pi_one (tk := s1.toks) I1 _ (turn_str _ z t "str_iterator" (.inr rfl)) ⟨_, Heap.get?_push_size _ rfl, rfl, rfl⟩ q)
    · exact wpAny_pyIter_ascii ha (pi_one (tk := s1.toks) I1 _ (turn_str _ z t "str_ascii_iterator" (.inl rfl)) ⟨_, Heap.get?_push_size _ rfl, rfl, rfl⟩ q)
theorem s_iter {w : W} (he : Snd X e w) : SndI X tg e (wIter w) := piImp (pi_any he) fun σ H R ⟨μ, env, st, P, rs, re, hw, f⟩ =>
  ⟨μ, env, st, _, rs, re, hw, fun d st1 v H1 μ1 ⟨di, h1, p⟩ s1 rs1 r1 => by
    by_cases hs : ∃ z, d = .str z
    · obtain ⟨z, rfl⟩ := hs
      cases r1
      cases h1
      exact .inr ⟨z, rfl, f _ st1 H1 μ1 _ p s1 rs1 (jok_str z)⟩
    · obtain ⟨k, a, rfl, hx, g⟩ := seq_di rs1 r1 h1 fun z e => hs ⟨z, e⟩
      exact .inl ⟨k, a, rfl, hx, f _ st1 H1 μ1 _ p s1 rs1 (jok_seq g)⟩⟩
/-! ranges -/
def rangeItems (lo : Int) (n : Nat) (c : Int) : List D := (List.range n).map fun (i : Nat) => D.int (lo + i * c)
theorem jok_range {lo : Int} {n : Nat} : JOk X (Itr lo n) ⟨rangeItems lo n 1, fun _ => True⟩ μ H := fun μ2 H2 st2 i s rs _ => by
  refine ⟨fun d hd => ?_, fun hl => by show n ≤ i; simpa [rangeItems] using hl⟩
  have hd : ((List.range n).map fun (i : Nat) => D.int (lo + i * 1))[i]? = some d := hd
  rw [List.getElem?_map] at hd
  obtain ⟨j, hj, rfl⟩ := Option.map_eq_some_iff.mp hd
  obtain ⟨hi, e⟩ := List.getElem?_eq_some_iff.mp hj
  have ej : i = j := by simpa using e
  subst ej
  refine ⟨show i < n by simpa using hi, fun x H3 ⟨e, ex⟩ => ?_⟩
  subst e ex
  exact ⟨.refl, rs, by rw [Int.mul_one]; exact .int _⟩
theorem jok_rangeC {lo c : Int} {n : Nat} : JOk X (Itc lo c n) ⟨rangeItems lo n c, fun _ => True⟩ μ H := fun μ2 H2 st2 i s rs _ => by
  refine ⟨fun d hd => ?_, fun hl => by show n ≤ i; simpa [rangeItems] using hl⟩
  have hd : ((List.range n).map fun (i : Nat) => D.int (lo + i * c))[i]? = some d := hd
  rw [List.getElem?_map] at hd
  obtain ⟨j, hj, rfl⟩ := Option.map_eq_some_iff.mp hd
  obtain ⟨hi, e⟩ := List.getElem?_eq_some_iff.mp hj
  have ej : i = j := by simpa using e
  subst ej
  refine ⟨show i < n by simpa using hi, fun x H3 ⟨e, ex⟩ => ?_⟩
  subst e ex
  exact ⟨.refl, rs, .int _⟩
def wRange1 (w : WA) : WI := fun env st P => w env st fun ds st1 => ∃ j : Int, ds = [.int j] ∧ (-(2 ^ 62) ≤ j ∧ j < 2 ^ 62) ∧ P ⟨rangeItems 0 j.toNat 1, fun _ => True⟩ st1
def wRange2 (w : WA) : WI := fun env st P => w env st fun ds st1 => ∃ i j : Int, ds = [.int i, .int j] ∧ (-(2 ^ 62) ≤ i ∧ i < 2 ^ 62 ∧ -(2 ^ 62) ≤ j ∧ j < 2 ^ 62) ∧ P ⟨rangeItems i (j - i).toNat 1, fun _ => True⟩ st1
def wRange3 (w : WA) : WI := fun env st P => w env st fun ds st1 => ∃ (i j c : Int) (n : Nat), ds = [.int i, .int j, .int c] ∧ RgC i j c n ∧ P ⟨rangeItems i n c, fun _ => True⟩ st1
variable {a b c : Expr} {wa : WA} {p pos tpos : Pos}
theorem s_range1 (hg : Gl X "range") (hm : X.mg "range" = none) (ha : SndA X [a] wa) (hs : starEach [a] X.env = [(false, eval a X.env)]) : SndI X tg (.Call (.Name "range" p) [a] [] pos) (wRange1 wa) :=
  piImp (pi_range1 hg hm ha hs) fun σ H R ⟨μ, env, st, P, rs, re, hw, f⟩ => ⟨μ, env, st, _, rs, re, hw, fun ds st1 vs H1 μ1 ⟨j, e, ⟨z1, z2⟩, p⟩ s1 rs1 r1 => by
    subst e
    cases r1 with
    | cons r t => cases r; cases t; exact ⟨j, rfl, z1, z2, f _ st1 H1 μ1 _ p s1 rs1 jok_range⟩⟩
theorem s_range2 (hg : Gl X "range") (hm : X.mg "range" = none) (ha : SndA X [a, b] wa) (hs : starEach [a, b] X.env = [(false, eval a X.env), (false, eval b X.env)]) (hs2 : starEach [b] X.env = [(false, eval b X.env)]) :
    SndI X tg (.Call (.Name "range" p) [a, b] [] pos) (wRange2 wa) :=
  piImp (pi_range2 hg hm ha hs hs2) fun σ H R ⟨μ, env, st, P, rs, re, hw, f⟩ => ⟨μ, env, st, _, rs, re, hw, fun ds st1 vs H1 μ1 ⟨i, j, e, z, p⟩ s1 rs1 r1 => by
    subst e
    cases r1 with
    | cons r t => cases r; cases t with
      | cons r t => cases r; cases t; exact ⟨i, j, rfl, z, f _ st1 H1 μ1 _ p s1 rs1 jok_range⟩⟩
theorem s_range3 (hg : Gl X "range") (hm : X.mg "range" = none) (ha : SndA X [a, b, c] wa) (hs : starEach [a, b, c] X.env = (false, eval a X.env) :: starEach [b, c] X.env) (hpl : (backTo pos (starEach [b, c] X.env)).any (·.1) = false) :
    SndI X tg (.Call (.Name "range" p) [a, b, c] [] pos) (wRange3 wa) :=
  piImp (pi_range3 hg hm ha hs hpl) fun σ H R ⟨μ, env, st, P, rs, re, hw, f⟩ => ⟨μ, env, st, _, rs, re, hw, fun ds st1 vs H1 μ1 ⟨i, j, k, n, e, z, p⟩ s1 rs1 r1 => by
    subst e
    cases r1 with
    | cons r t => cases r; cases t with
      | cons r t => cases r; cases t with
        | cons r t => cases r; cases t; exact ⟨i, j, k, n, rfl, z, f _ st1 H1 μ1 _ p s1 rs1 jok_rangeC⟩⟩
/-! zip, enumerate -/
def zipD : List D → List D → List D
  | a :: as, b :: bs => .tup [a, b] :: zipD as bs
  | _, _ => []
def enumD : Nat → List D → List D
  | _, [] => []
  | n, a :: as => .tup [.int n, a] :: enumD (n + 1) as
theorem zipD_get : ∀ {as bs : List D} {i : Nat} {d : D}, (zipD as bs)[i]? = some d → ∃ a b, as[i]? = some a ∧ bs[i]? = some b ∧ d = .tup [a, b]
  | a :: as, b :: bs, 0, d, h => by simp [zipD] at h; exact ⟨a, b, rfl, rfl, h.symm⟩
  | a :: as, b :: bs, i + 1, d, h => by simpa using zipD_get (as := as) (bs := bs) (i := i) (by simpa [zipD] using h)
  | [], _, _, _, h => by simp [zipD] at h
  | _ :: _, [], _, _, h => by simp [zipD] at h
theorem zipD_len : ∀ {as bs : List D}, (zipD as bs).length = min as.length bs.length
  | a :: as, b :: bs => by simp [zipD, zipD_len (as := as) (bs := bs)]
  | [], _ => by simp [zipD]
  | _ :: _, [] => by simp [zipD]
theorem enumD_get : ∀ {as : List D} {n i : Nat} {d : D}, (enumD n as)[i]? = some d → ∃ a, as[i]? = some a ∧ d = .tup [.int ((n + i : Nat) : Int), a]
  | a :: as, n, 0, d, h => by simp [enumD] at h; exact ⟨a, rfl, by simpa using h.symm⟩
  | a :: as, n, i + 1, d, h => by
    obtain ⟨b, h1, h2⟩ := enumD_get (as := as) (n := n + 1) (i := i) (by simpa [enumD] using h)
    exact ⟨b, by simpa using h1, by rw [h2, show n + 1 + i = n + (i + 1) by omega]⟩
  | [], _, _, _, h => by simp [enumD] at h
theorem enumD_len : ∀ {as : List D} {n : Nat}, (enumD n as).length = as.length
  | _ :: as, n => by simp [enumD, enumD_len (as := as)]
  | [], _ => rfl
def wZip (w : WA) : WI := fun env st P => w env st fun ds st1 => ∃ d e di dj, ds = [d, e] ∧ diOf st1 d = some di ∧ diOf st1 e = some dj ∧ ((∀ z, d ≠ .str z) ∧ ∀ z, e ≠ .str z) ∧ P ⟨zipD di.items dj.items, fun s => di.ok s ∧ dj.ok s⟩ st1
def wEnum (w : WA) : WI := fun env st P => w env st fun ds st1 => ∃ d di, ds = [d] ∧ diOf st1 d = some di ∧ (∀ z, d ≠ .str z) ∧ P ⟨enumD 0 di.items, di.ok⟩ st1
theorem s_zip {elts : List Expr} {kk : Nat} (hg : Gl X "zip") (hm : X.mg "zip" = none) (ha : SndA X [a, b] wa) (hs : starEach [a, b] X.env = (false, eval a X.env) :: starEach [b] X.env) (hpl : (backTo pos (starEach [b] X.env)).any (·.1) = false) :
    SndI X (.Tuple elts kk tpos) (.Call (.Name "zip" p) [a, b] [] pos) (wZip wa) :=
  piImp (pi_zipS hg hm ha hs hpl) fun σ H R ⟨μ, env, st, P, rs, re, hw, f⟩ => ⟨μ, env, st, _, rs, re, hw, fun ds st1 vs H1 μ1 ⟨d, e, di, dj, ed, h1, h2, ⟨n1, n2⟩, p⟩ s1 rs1 r1 => by
    subst ed
    cases r1 with
    | cons r t => cases t with
      | cons r' t =>
        cases t
        obtain ⟨k1, a1, rfl, ⟨xs, q1⟩, g1⟩ := seq_di rs1 r h1 n1
        obtain ⟨k2, a2, rfl, ⟨ys, q2⟩, g2⟩ := seq_di rs1 r' h2 n2
        refine ⟨k1, k2, a1, a2, xs, ys, rfl, q1, q2, f _ st1 H1 μ1 _ p s1 rs1 fun μ2 H2 st2 i s2 rs2 ⟨o1, o2⟩ => ?_⟩
        obtain ⟨xs2, u1, t1⟩ := g1 μ2 H2 st2 s2 rs2 o1
        obtain ⟨ys2, u2, t2⟩ := g2 μ2 H2 st2 s2 rs2 o2
        refine ⟨fun d hd => ?_, fun hl => ⟨xs2, ys2, u1, u2, ?_⟩⟩
        · obtain ⟨da, db, e1, e2, rfl⟩ := zipD_get hd
          obtain ⟨x, hx, rx⟩ := t1.get e1
          obtain ⟨y, hy, ry⟩ := t2.get e2
          refine ⟨⟨xs2, ys2, x, y, u1, u2, hx, hy⟩, fun v H3 ⟨T, x', y', ev, hT, eH, f1, f2⟩ => ?_⟩
          subst ev eH
          have ex := f1 xs2 u1
          have ey := f2 ys2 u2
          rw [hx] at ex; cases ex
          rw [hy] at ey; cases ey
          exact ⟨Stp.fresh hT, rs2.fresh hT, .tup (.inl upd_same) (.cons (rx.step (Stp.fresh hT)) (.cons (ry.step (Stp.fresh hT)) .nil))⟩
        · have hl : (zipD di.items dj.items).length ≤ i := hl
          rw [zipD_len] at hl
          rw [t1.length, t2.length]
          omega⟩
theorem s_enum {elts : List Expr} {kk : Nat} (hg : Gl X "enumerate") (hm : X.mg "enumerate" = none) (ha : SndA X [a] wa) (hs : starEach [a] X.env = (false, eval a X.env) :: starEach [] X.env) :
    SndI X (.Tuple elts kk tpos) (.Call (.Name "enumerate" p) [a] [] pos) (wEnum wa) :=
  piImp (pi_enumS hg hm ha hs) fun σ H R ⟨μ, env, st, P, rs, re, hw, f⟩ => ⟨μ, env, st, _, rs, re, hw, fun ds st1 vs H1 μ1 ⟨d, di, ed, h1, n1, p⟩ s1 rs1 r1 => by
    subst ed
    cases r1 with
    | cons r t =>
      cases t
      obtain ⟨k1, a1, rfl, ⟨xs, q1⟩, g1⟩ := seq_di rs1 r h1 n1
      refine ⟨k1, a1, xs, rfl, q1, f _ st1 H1 μ1 _ p s1 rs1 fun μ2 H2 st2 i s2 rs2 o1 => ?_⟩
      obtain ⟨xs2, u1, t1⟩ := g1 μ2 H2 st2 s2 rs2 o1
      refine ⟨fun d hd => ?_, fun hl => ⟨xs2, u1, ?_⟩⟩
      · obtain ⟨da, e1, rfl⟩ := enumD_get hd
        obtain ⟨x, hx, rx⟩ := t1.get e1
        refine ⟨⟨xs2, x, u1, hx⟩, fun v H3 ⟨T, x', ev, hT, eH, f1⟩ => ?_⟩
        subst ev eH
        have ex := f1 xs2 u1
        rw [hx] at ex; cases ex
        rw [Nat.zero_add]
        exact ⟨Stp.fresh hT, rs2.fresh hT, .tup (.inl upd_same) (.cons (.int _) (.cons (rx.step (Stp.fresh hT)) .nil))⟩
      · have hl : (enumD 0 di.items).length ≤ i := hl
        rw [enumD_len] at hl
        rw [t1.length]
        exact hl⟩
end

/-! ### targets -/
abbrev WG := D → Ev → Sto → (Ev → Sto → Prop) → Prop
abbrev WGs := List D → Ev → Sto → (Ev → Sto → Prop) → Prop
section
variable (X : Cx)
def tG (w : WG) : TG := fun v σ H Q => ∃ μ env st d P, RS X.K X.mg μ H st ∧ RE X.K X.mg μ H σ env ∧ Rv X.K X.mg μ H v d ∧ w d env st P ∧
  ∀ env' st' σ' H' μ', P env' st' → Stp μ H μ' H' → RS X.K X.mg μ' H' st' → RE X.K X.mg μ' H' σ' env' → Q σ' H'
def tGs (w : WGs) : TGs := fun vs σ H Q => ∃ μ env st ds P, RS X.K X.mg μ H st ∧ RE X.K X.mg μ H σ env ∧ Rvs X.K X.mg μ H vs ds ∧ w ds env st P ∧
  ∀ env' st' σ' H' μ', P env' st' → Stp μ H μ' H' → RS X.K X.mg μ' H' st' → RE X.K X.mg μ' H' σ' env' → Q σ' H'
abbrev SndG (e : Expr) (w : WG) : Prop := PG X e (tG X w)
abbrev SndGs (es : List Expr) (w : WGs) : Prop := PGs X es (tGs X w)
end
section
variable {X : Cx} {pos : Pos} {e : Expr} {es : List Expr}
theorem pgImp {t t' : TG} (h : PG X e t) (i : ∀ v σ H Q, t' v σ H Q → t v σ H Q) : PG X e t' := ⟨fun pins s σ H v u Q I r q => h.run pins s σ H v u Q I r (i v σ H Q q)⟩
theorem pgsImp {t t' : TGs} (h : PGs X es t) (i : ∀ v σ H Q, t' v σ H Q → t v σ H Q) : PGs X es t' := ⟨fun pins s σ H v u Q I r q => h.run pins s σ H v u Q I r (i v σ H Q q)⟩
def gNm (i : Nat) : WG := fun d env st P => P (env.set i (some d)) st
theorem s_gname {i : Nat} {x : Str} (hN : X.N.Nodup) (hi : X.N[i]? = some x) (hx : Loc X.env.scope x) (hf : X.fn x = true ∨ X.env.scope.names.lookup x = some .local) : SndG X (.Name x pos) (gNm i) :=
  pgImp (pg_name hN hi hx hf) fun v σ H Q ⟨μ, env, st, d, P, rs, re, r, w, f⟩ => f _ st _ H μ w .refl rs (re.set i r)
def gsNil : WGs := fun ds env st P => ds = [] ∧ P env st
def gsCons (g : WG) (gs : WGs) : WGs := fun ds env st P => ∃ d r, ds = d :: r ∧ g d env st fun env' st' => gs r env' st' P
theorem s_gsnil : SndGs X [] gsNil := pgsImp pgs_nil fun vs σ H Q ⟨μ, env, st, ds, P, rs, re, r, ⟨e, w⟩, f⟩ => by
  subst e; cases r; exact ⟨rfl, f env st σ H μ w .refl rs re⟩
theorem s_gscons {g : WG} {gs : WGs} (h1 : SndG X e g) (h2 : SndGs X es gs) (hs : (assignEach (e :: es) X.env).map (·.2) = assign e X.env :: (assignEach es X.env).map (·.2)) : SndGs X (e :: es) (gsCons g gs) :=
  pgsImp (pgs_cons h1 h2 hs) fun vs σ H Q ⟨μ, env, st, ds, P, rs, re, r, ⟨d, dr, e, w⟩, f⟩ => by
    subst e
    cases r with
    | cons r t => exact ⟨_, _, rfl, μ, env, st, d, _, rs, re, r, w, fun env' st' σ' H' μ' p s rs' re' => ⟨μ', env', st', dr, P, rs', re', t.step s, p, fun e2 st2 σ2 H2 μ2 p2 s2 => f e2 st2 σ2 H2 μ2 p2 (s.trans s2)⟩⟩
/-- a tuple or a list of that length -/
def gTp (n : Nat) (gs : WGs) : WG := fun d env st P => ∃ ds, itemsD st d = some ds ∧ ds.length = n ∧ gs ds env st P
def gAnyT (K : PySem.W.Frag) (n : Nat) (t : TGs) : TG := fun v σ H Q => ∃ k a xs, v = .ref a ∧ SqK k K H a xs ∧ xs.length = n ∧ t xs σ H Q
theorem pg_anyT {k : Nat} {t : TGs} {n : Nat} (hc : X.calm = true) (h : PGs X es t) (hn : (assignEach es X.env).length = n) (hst : (assignEach es X.env).findIdx? (·.1) = none) : PG X (.Tuple es k pos) (gAnyT X.K n t) :=
  ⟨fun pins s σ H v u Q I r ⟨k', a, xs, e, hq, hl, hw⟩ => by
    cases k'
    · exact (pg_tup hc h hn hst).run pins s σ H v u Q I r ⟨a, xs, e, hq, hl, hw⟩
    · exact (pg_unl hc h hn hst).run pins s σ H v u Q I r ⟨a, xs, e, hq, hl, hw⟩⟩
theorem items_sqk {μ : List Addr} {H : Hp} {st : Sto} (rs : RS X.K X.mg μ H st) {d : D} {v : V} {ds : List D} (r : Rv X.K X.mg μ H v d) (h : itemsD st d = some ds) : ∃ k a xs, v = .ref a ∧ SqK k X.K H a xs ∧ Rvs X.K X.mg μ H xs ds := by
  obtain ⟨a, xs, e, hq, t⟩ := items_ok rs r h
  rcases hq with hq | hq
  · exact ⟨true, a, xs, e, hq, t⟩
  · exact ⟨false, a, xs, e, hq, t⟩
theorem s_gtup {k n : Nat} {gs : WGs} (hc : X.calm = true) (h : SndGs X es gs) (hn : (assignEach es X.env).length = n) (hst : (assignEach es X.env).findIdx? (·.1) = none) : SndG X (.Tuple es k pos) (gTp n gs) :=
  pgImp (pg_anyT hc h hn hst) fun v σ H Q ⟨μ, env, st, d, P, rs, re, r, ⟨ds, h1, h2, w⟩, f⟩ => by
    obtain ⟨k', a, xs, e, hq, t⟩ := items_sqk rs r h1
    exact ⟨k', a, xs, e, hq, by rw [t.length]; exact h2, μ, env, st, ds, P, rs, re, t, w, f⟩
/-! o[i] = v of a list -/
def gIx (wo wi : W) : WG := fun v env st P => wo env st fun o st1 => wi env st1 fun i st2 => ∃ n xs k j, o = .ref n ∧ i = .int k ∧ st2[n]? = some (.lst xs) ∧ ixN xs.length k = some j ∧ P env (st2.set n (.lst (xs.set j v)))
theorem s_gix {o i : Expr} {wo wi : W} (ho : Snd X o wo) (hi : Snd X i wi) (ha : ∀ v, assign (.Subscript o i pos) X.env v = (do
      let ov ← holding [v] (eval o X.env)
      let iv ← holding [v, ov] (eval i X.env)
      standAt pos
      holding [v, ov, iv] (setItem ov iv v)
      release [v, ov, iv] [])) : SndG X (.Subscript o i pos) (gIx wo wi) :=
  pgImp (pg_sub ho hi set_list ha) fun v σ H Q ⟨μ, env, st, d, P, rs, re, r, w, f⟩ => by
    refine two rs re w fun d1 d2 st' x y H' μ' ⟨n, xs, k, j, e1, e2, h1, h2, p⟩ s rs' re' r1 r2 => ?_
    subst e1 e2
    cases r1 with
    | ref hn =>
      cases r2
      obtain ⟨vs, h3, t⟩ := rs'.at_ _ _ _ hn h1
      have wr : Stp μ' H' μ' (upd H' _ (.lst (vs.set j v))) := Stp.write h3 (fun _ z => nomatch z) fun _ _ z => nomatch z
      refine ⟨_, vs, k, j, rfl, rfl, h3, by rw [t.length]; exact h2, ?_⟩
      exact f env _ σ _ μ' p (s.trans wr) (rs'.write hn wr ⟨_, upd_same, (t.set (r.step s) j).step wr⟩) (re'.step wr)
end

/-! ### statements -/
structure En where
  nx : Ev → Sto → Prop
  rt : DP
  bk : Ev → Sto → Prop := fun _ _ => False
  ct : Ev → Sto → Prop := fun _ _ => False
abbrev WS := En → Ev → Sto → Prop
def Fl (X : Cx) (μ : List Addr) (H : Hp) (P : Ev → Sto → Prop) (Q : L2.St → Hp → Prop) : Prop :=
  ∀ env st σ H' μ', P env st → Stp μ H μ' H' → RS X.K X.mg μ' H' st → RE X.K X.mg μ' H' σ env → Q σ H'
structure FulS (X : Cx) (μ : List Addr) (H : Hp) (P : En) (D : Ends) : Prop where
  nx : Fl X μ H P.nx D.nx
  rt : Ful X μ H P.rt D.rt
  bk : Fl X μ H P.bk D.bk
  ct : Fl X μ H P.ct D.ct
def tS (X : Cx) (w : WS) : TS := fun D σ H => ∃ μ env st P, RS X.K X.mg μ H st ∧ RE X.K X.mg μ H σ env ∧ w P env st ∧ FulS X μ H P D
abbrev SndS (X : Cx) (s : Stmt) (w : WS) : Prop := PS X s (tS X w)
abbrev SndSs (X : Cx) (s : List Stmt) (w : WS) : Prop := PSs X s (tS X w)
section
variable {X : Cx} {μ μ' : List Addr} {H H' : Hp} {pos : Pos} {s : Stmt} {ss : List Stmt} {e c : Expr} {w u : WS} {we : W} {wt : WT}
theorem Fl.then_ {P : Ev → Sto → Prop} {Q : L2.St → Hp → Prop} (f : Fl X μ H P Q) (s : Stp μ H μ' H') : Fl X μ' H' P Q := fun env st σ H2 μ2 p s2 => f env st σ H2 μ2 p (s.trans s2)
theorem FulS.then_ {P : En} {D : Ends} (f : FulS X μ H P D) (s : Stp μ H μ' H') : FulS X μ' H' P D := ⟨f.nx.then_ s, f.rt.then_ s, f.bk.then_ s, f.ct.then_ s⟩
def wNext : WS := fun E env st => E.nx env st
def wSeq (a b : WS) : WS := fun E env st => a { E with nx := b E } env st
theorem s_done : SndSs X [] wNext := pss_nil.imp fun D σ H ⟨μ, env, st, P, rs, re, p, f⟩ => f.nx env st σ H μ p .refl rs re
theorem s_seq (h1 : SndS X s w) (h2 : SndSs X ss u) : SndSs X (s :: ss) (wSeq w u) :=
  (pss_cons h1 h2).imp fun D σ H ⟨μ, env, st, P, rs, re, p, f⟩ => ⟨μ, env, st, _, rs, re, p, fun env' st' σ' H' μ' p' s' rs' re' => ⟨μ', env', st', P, rs', re', p', f.then_ s'⟩, f.rt, f.bk, f.ct⟩
theorem s_last (h1 : SndS X s w) : SndSs X [s] w := pss_one h1
def wBrk : WS := fun E env st => E.bk env st
def wCnt : WS := fun E env st => E.ct env st
theorem s_pass : SndS X (.Pass pos) wNext := ps_pass.imp fun D σ H ⟨μ, env, st, P, rs, re, p, f⟩ => f.nx env st σ H μ p .refl rs re
theorem s_break : SndS X (.Break pos) wBrk := ps_break.imp fun D σ H ⟨μ, env, st, P, rs, re, p, f⟩ => f.bk env st σ H μ p .refl rs re
theorem s_cont : SndS X (.Continue pos) wCnt := ps_continue.imp fun D σ H ⟨μ, env, st, P, rs, re, p, f⟩ => f.ct env st σ H μ p .refl rs re
def wDrop (we : W) : WS := fun E env st => we env st fun _ st1 => E.nx env st1
theorem s_expr (he : Snd X e we) (hs : swapsWith e none pos.line X.env = pure false) : SndS X (.Expr e pos) (wDrop we) :=
  (ps_expr he hs).imp fun D σ H ⟨μ, env, st, P, rs, re, p, f⟩ => ⟨μ, env, st, _, rs, re, p, fun d st1 v H1 μ1 p1 s1 rs1 r1 => f.nx env st1 σ H1 μ1 p1 s1 rs1 (re.step s1)⟩
def wRet (we : W) : WS := fun E env st => we env st E.rt
theorem s_ret (he : Snd X e we) : SndS X (.Return (some e) pos) (wRet we) :=
  (ps_ret he).imp fun D σ H ⟨μ, env, st, P, rs, re, p, f⟩ => ⟨μ, env, st, _, rs, re, p, f.rt⟩
def wRetN : WS := fun E env st => E.rt .non st
theorem s_retN : SndS X (.Return none pos) wRetN := ps_retN.imp fun D σ H ⟨μ, env, st, P, rs, re, p, f⟩ => f.rt.now p rs .non
def wIfS (t : WT) (a b : WS) : WS := fun E env st => t env st fun k st1 => if k = true then a E env st1 else b E env st1
theorem s_ifS {a b : List Stmt} (hc : SndT X c wt) (ha : SndSs X a w) (hb : SndSs X b u) : SndS X (.If c a b pos) (wIfS wt w u) :=
  (ps_if hc ha hb).imp fun D σ H ⟨μ, env, st, P, rs, re, p, f⟩ => ⟨μ, env, st, _, rs, re, p, fun k st1 H1 μ1 p1 s1 rs1 => by
    cases k with
    | true => exact ⟨μ1, env, st1, P, rs1, re.step s1, p1, f.then_ s1⟩
    | false => exact ⟨μ1, env, st1, P, rs1, re.step s1, p1, f.then_ s1⟩⟩
/-- never come to -/
def wNever : WS := fun _ _ _ => False
theorem s_never : SndS X s wNever := ps_never.imp fun D σ H ⟨_, _, _, _, _, _, p, _⟩ => p
/-! target = value -/
def wAsg (we : W) (g : WG) : WS := fun E env st => we env st fun d st1 => g d env st1 E.nx
theorem asg_of {g : WG} {D : Ends} {σ : L2.St} {H : Hp} (h : tS X (wAsg we g) D σ H) : tAsg (tD X we) (tG X g) D σ H := by
  obtain ⟨μ, env, st, P, rs, re, p, f⟩ := h
  exact ⟨μ, env, st, _, rs, re, p, fun d st1 v H1 μ1 p1 s1 rs1 r1 => ⟨μ1, env, st1, d, _, rs1, re.step s1, r1, p1, f.nx.then_ s1⟩⟩
theorem s_asg {tg : Expr} {g : WG} (he : Snd X e we) (hg : SndG X tg g) (hs : swapsWithSole [tg] e pos.line X.env = pure false) (hw : swappedStores [tg] e X.env = pure none) (h1 : (assignEach [tg] X.env).map (·.2) = [assign tg X.env]) :
    SndS X (.Assign [tg] e pos) (wAsg we g) := (ps_asg he hg hs hw h1).imp fun D σ H h => asg_of h
theorem s_set {i : Nat} {x : Str} {p' : Pos} (hN : X.N.Nodup) (hi : X.N[i]? = some x) (hx : Loc X.env.scope x) (he : Snd X e we) (hs : swapsWith e (some (.Name x p')) pos.line X.env = pure false) (hf : X.fn x = true ∨ X.env.scope.names.lookup x = some .local) :
    SndS X (.Assign [.Name x p'] e pos) (wAsg we (gNm i)) :=
  (ps_set hN hi hx he hs hf).imp fun D σ H ⟨μ, env, st, P, rs, re, p, f⟩ => ⟨μ, env, st, _, rs, re, p, fun d st1 v H1 μ1 p1 s1 rs1 r1 => f.nx _ st1 _ H1 μ1 p1 s1 rs1 ((re.step s1).set i r1)⟩
/-! for -/
def loopF (di : DI) (g : WG) (b : WS) (E : En) : List D → Ev → Sto → Prop
  | [], env, st => di.ok st ∧ E.nx env st
  | d :: r, env, st => di.ok st ∧ g d env st fun env1 st1 => b { nx := loopF di g b E r, ct := loopF di g b E r, bk := E.nx, rt := E.rt } env1 st1
def wFor (wi : WI) (g : WG) (b : WS) : WS := fun E env st => wi env st fun di st1 => loopF di g b E di.items env st1
theorem s_for {tg iter : Expr} {body : List Stmt} {wi : WI} {g : WG} {b : WS} (hp : PassesOwn (model X.prog X.w) X.A X.env X.xe) (hc : X.calm = true) (hi : SndI X tg iter wi) (hg : SndG X tg g) (hb : SndSs X body b) (hs : ∀ x, foldedSetIterable iter X.env x = pure x) :
    SndS X (.For tg iter body [] pos) (wFor wi g b) :=
  (ps_for hp hc hi hg hb hs).imp fun D σ H ⟨μ, env, st, P, rs, re, p, f⟩ => ⟨μ, env, st, _, rs, re, p, fun di st1 H1 μ1 J p1 s1 rs1 jk => by
    refine ⟨fun i m σ2 H2 => ∃ μ2 env2 st2, Stp μ1 H1 μ2 H2 ∧ RS X.K X.mg μ2 H2 st2 ∧ RE X.K X.mg μ2 H2 σ2 env2 ∧ m = di.items.length - i ∧ loopF di g b P (di.items.drop i) env2 st2,
      ⟨_, μ1, env, st1, .refl, rs1, re.step s1, rfl, p1⟩, ?_⟩
    rintro i m σ2 H2 ⟨μ2, env2, st2, s2, rs2, re2, rfl, lp⟩
    by_cases hi : i < di.items.length
    · obtain ⟨d, hd⟩ : ∃ d, di.items[i]? = some d := ⟨_, List.getElem?_eq_getElem hi⟩
      have ed : di.items.drop i = d :: di.items.drop (i + 1) := by
        rw [List.drop_eq_getElem_cons hi]
        rw [List.getElem?_eq_getElem hi] at hd
        cases hd; rfl
      rw [ed] at lp
      obtain ⟨ok, lp⟩ := lp
      obtain ⟨go, yl⟩ := (jk μ2 H2 st2 i s2 rs2 ok).1 d hd
      refine .inr ⟨go, fun σ' H' => ∃ μ' env' st', Stp μ1 H1 μ' H' ∧ RS X.K X.mg μ' H' st' ∧ RE X.K X.mg μ' H' σ' env' ∧ loopF di g b P (di.items.drop (i + 1)) env' st', ?_, ?_⟩
      · rintro σ' H' ⟨μ', env', st', a1, a2, a3, a4⟩
        exact ⟨_, by omega, μ', env', st', a1, a2, a3, rfl, a4⟩
      · intro x H3 y
        obtain ⟨s3, rs3, r3⟩ := yl x H3 y
        refine ⟨μ2, env2, st2, d, _, rs3, re2.step s3, r3, lp, fun env4 st4 σ4 H4 μ4 p4 s4 rs4 re4 => ⟨μ4, env4, st4, _, rs4, re4, p4, ?_, ?_, ?_, ?_⟩⟩
        · exact fun env5 st5 σ5 H5 μ5 p5 s5 rs5 re5 => ⟨μ5, env5, st5, ((s2.trans s3).trans s4).trans s5, rs5, re5, p5⟩
        · exact f.rt.then_ (((s1.trans s2).trans s3).trans s4)
        · exact f.nx.then_ (((s1.trans s2).trans s3).trans s4)
        · exact fun env5 st5 σ5 H5 μ5 p5 s5 rs5 re5 => ⟨μ5, env5, st5, ((s2.trans s3).trans s4).trans s5, rs5, re5, p5⟩
    · rw [List.drop_of_length_le (by omega)] at lp
      exact .inl ⟨(jk μ2 H2 st2 i s2 rs2 lp.1).2 (by omega), f.nx env2 st2 σ2 H2 μ2 lp.2 (s1.trans s2) rs2 re2⟩⟩
/-! while -/
def iterW (c : WT) (b : WS) (E : En) : Nat → Ev → Sto → Prop
  | 0, _, _ => False
  | n + 1, env, st => c env st fun k st1 => if k = true then b { nx := iterW c b E n, ct := iterW c b E n, bk := E.nx, rt := E.rt } env st1 else E.nx env st1
def wWhile (c : WT) (b : WS) : WS := fun E env st => ∃ n, iterW c b E n env st
theorem s_while {body : List Stmt} {b : WS} (hp : PassesOwn (model X.prog X.w) X.A X.env X.xe) (hc : SndT X c wt) (hb : SndSs X body b) : SndS X (.While c body [] pos) (wWhile wt b) :=
  (ps_while hp hc hb).imp fun D σ H ⟨μ, env, st, P, rs, re, ⟨n0, p⟩, f⟩ => by
    refine ⟨fun m σ2 H2 => ∃ μ2 env2 st2, Stp μ H μ2 H2 ∧ RS X.K X.mg μ2 H2 st2 ∧ RE X.K X.mg μ2 H2 σ2 env2 ∧ iterW wt b P m env2 st2, ⟨n0, μ, env, st, .refl, rs, re, p⟩, ?_⟩
    rintro m σ2 H2 ⟨μ2, env2, st2, s2, rs2, re2, lp⟩
    cases m with
    | zero => exact lp.elim
    | succ m =>
      refine ⟨μ2, env2, st2, _, rs2, re2, lp, fun k st3 H3 μ3 p3 s3 rs3 => ?_⟩
      cases k with
      | false => exact f.nx env2 st3 σ2 H3 μ3 p3 (s2.trans s3) rs3 (re2.step s3)
      | true =>
        refine ⟨fun σ' H' => ∃ μ' env' st', Stp μ H μ' H' ∧ RS X.K X.mg μ' H' st' ∧ RE X.K X.mg μ' H' σ' env' ∧ iterW wt b P m env' st', ?_, ?_⟩
        · rintro σ' H' ⟨μ', env', st', a1, a2, a3, a4⟩
          exact ⟨m, Nat.lt_succ_self _, μ', env', st', a1, a2, a3, a4⟩
        · refine ⟨μ3, env2, st3, _, rs3, re2.step s3, p3, ?_, ?_, ?_, ?_⟩
          · exact fun env5 st5 σ5 H5 μ5 p5 s5 rs5 re5 => ⟨μ5, env5, st5, (s2.trans s3).trans s5, rs5, re5, p5⟩
          · exact f.rt.then_ (s2.trans s3)
          · exact f.nx.then_ (s2.trans s3)
          · exact fun env5 st5 σ5 H5 μ5 p5 s5 rs5 re5 => ⟨μ5, env5, st5, (s2.trans s3).trans s5, rs5, re5, p5⟩
end
end DX

set_option Elab.async false
set_option linter.all false
set_option maxRecDepth 100000
set_option maxHeartbeats 2000000
/-! DX, part f: comprehensions, several names at once. -/
namespace DX
open PySem PySem.Spec PyProof.Rows L2

def wipeE (env : Ev) : List Nat → Ev
  | [] => env
  | v :: vs => (wipeE env vs).set v none
section
variable {K : PySem.W.Frag} {mg : Str → Option Value} {μ : List Addr} {H : Hp}
theorem RE.forget {σ : L2.St} {env : Ev} (r : RE K mg μ H σ env) (i : Nat) : RE K mg μ H (σ.set i none) (env.set i none) := by
  refine ⟨by simpa using r.len, fun j d h => ?_⟩
  by_cases hj : i = j
  · subst hj
    by_cases hl : i < env.length
    · rw [List.getElem?_set_self hl] at h; cases h
    · rw [List.getElem?_eq_none (by simpa using hl)] at h; cases h
  · rw [List.getElem?_set_ne hj] at h
    obtain ⟨v, e1, q⟩ := r.at_ j d h
    exact ⟨v, (List.getElem?_set_ne hj).trans e1, q⟩
theorem RE.wipe {σ : L2.St} {env : Ev} (r : RE K mg μ H σ env) : ∀ vs : List Nat, RE K mg μ H (L2.wipe σ vs) (wipeE env vs)
  | [] => r
  | v :: vs => (RE.wipe r vs).forget v
end
theorem wipe_set {σ : L2.St} {i : Nat} {x : Option V} : ∀ {vs : List Nat}, i ∈ vs → L2.wipe (σ.set i x) vs = L2.wipe σ vs
  | v :: vs, h => by
    unfold L2.wipe
    by_cases hi : i ∈ vs
    · rw [wipe_set hi]
    · have e : i = v := by
        rcases List.mem_cons.mp h with e | h
        · exact e
        · exact absurd h hi
      subst e
      have out : ∀ (ws : List Nat), i ∉ ws → L2.wipe (σ.set i x) ws = (L2.wipe σ ws).set i x := by
        intro ws
        induction ws with
        | nil => intro _; rfl
        | cons w ws ih =>
          intro hw
          simp only [List.mem_cons, not_or] at hw
          unfold L2.wipe
          rw [ih hw.2, List.set_comm _ _ hw.1]
      rw [out vs hi, List.set_set]
/-- a target of names alone, all of them the block's own -/
def TgOk (X : Cx) (vs : List Nat) (t : TG) (w : WG) : Prop := ∀ v d μ H st env σ P Q, RS X.K X.mg μ H st → RE X.K X.mg μ H σ env → Rv X.K X.mg μ H v d → w d env st P →
  (∀ env' σ', RE X.K X.mg μ H σ' env' → P env' st → L2.wipe σ' vs = L2.wipe σ vs → Q σ' H) → t v σ H Q
def TgsOk (X : Cx) (vs : List Nat) (t : TGs) (w : WGs) : Prop := ∀ us ds μ H st env σ P Q, RS X.K X.mg μ H st → RE X.K X.mg μ H σ env → Rvs X.K X.mg μ H us ds → w ds env st P →
  (∀ env' σ', RE X.K X.mg μ H σ' env' → P env' st → L2.wipe σ' vs = L2.wipe σ vs → Q σ' H) → t us σ H Q
section
variable {X : Cx} {vs : List Nat}
theorem tg_name {i : Nat} (h : i ∈ vs) : TgOk X vs (gName i) (gNm i) := fun v d μ H st env σ P Q rs re r w f => f _ _ (re.set i r) w (wipe_set h)
theorem tgs_nil : TgsOk X vs gNil gsNil := fun us ds μ H st env σ P Q rs re r ⟨e, w⟩ f => by subst e; cases r; exact ⟨rfl, f _ _ re w rfl⟩
theorem tgs_cons {t : TG} {u : TGs} {g : WG} {gs : WGs} (h1 : TgOk X vs t g) (h2 : TgsOk X vs u gs) : TgsOk X vs (gCons t u) (gsCons g gs) := fun us ds μ H st env σ P Q rs re r ⟨d, dr, e, w⟩ f => by
  subst e
  cases r with
  | cons r t => exact ⟨_, _, rfl, h1 _ d μ H st env σ _ _ rs re r w fun env1 σ1 re1 p1 w1 => h2 _ dr μ H st env1 σ1 _ _ rs re1 t p1 fun env2 σ2 re2 p2 w2 => f env2 σ2 re2 p2 (w2.trans w1)⟩
theorem tg_tup {n : Nat} {u : TGs} {gs : WGs} (h : TgsOk X vs u gs) : TgOk X vs (gAnyT X.K n u) (gTp n gs) := fun v d μ H st env σ P Q rs re r ⟨ds, h1, h2, w⟩ f => by
  obtain ⟨k', a, xs, e, hq, t⟩ := items_sqk rs r h1
  exact ⟨k', a, xs, e, hq, by rw [t.length]; exact h2, h xs ds μ H st env σ P Q rs re t w f⟩
end

/-! ### one clause -/
def loopC (n : Nat) (di : DI) (g : WG) (t : WT) (e : W) (env : Ev) (Q : Sto → Prop) : List D → Sto → Prop
  | [], st => di.ok st ∧ Q st
  | d :: r, st => di.ok st ∧ g d env st fun env1 st1 => t env1 st1 fun b st2 =>
      if b = true then e env1 st2 fun y st3 => ∃ acc, st3[n]? = some (.lst acc) ∧ acc.length < sizeLine ∧ loopC n di g t e env Q r (st3.set n (.lst (acc ++ [y]))) else loopC n di g t e env Q r st2
def wLc (own : List Nat) (wi : WI) (g : WG) (t : WT) (e : W) : W := fun env st P => wi env st fun di st1 =>
  loopC st1.length di g t e (wipeE env own) (fun st' => P (.ref st1.length) st') di.items (st1 ++ [.lst []])
def wYes : WT := fun _ st P => P true st
section
variable {X : Cx}
/-- the turns of one walk that appends to the list at L, the n-th thing of the store -/
theorem turns_of {vs : List Nat} {t : TG} {g : WG} {wt : WT} {we : W} {L : Addr} {n : Nat} {J : It} {di : DI} {μ : List Addr} {H : Hp} {σ : L2.St} {env : Ev} {st : Sto} {Q : Sto → Prop} {R : Hp → Prop} (tg : TgOk X vs t g) (hL : μ[n]? = some L)
    (jk : JOk X J di μ H) (rs : RS X.K X.mg μ H st) (re : RE X.K X.mg μ H σ env) (hv : L2.wipe σ vs = σ) (lp : loopC n di g wt we env Q di.items st)
    (fin : ∀ μ2 H2 st2, Stp μ H μ2 H2 → RS X.K X.mg μ2 H2 st2 → Q st2 → R H2) :
    ∃ W : Nat → Nat → Hp → Prop, (∃ m, W 0 m H) ∧ ∀ i m H', W i m H' → (J.stop i H' ∧ R H') ∨ (J.go i H' ∧ ∃ Nx : Hp → Prop, (∀ H'', Nx H'' → ∃ m', m' < m ∧ W (i + 1) m' H'') ∧ ∀ x H'', J.yld i H' x H'' → t x σ H'' fun σ2 H2 => L2.wipe σ2 vs = σ ∧
      tT X wt σ2 H2 fun b H3 => if b = true then tD X we σ2 H3 fun y H4 => ∃ acc, H4 L = some (.lst acc) ∧ acc.length < sizeLine ∧ Nx (upd H4 L (.lst (acc ++ [y]))) else Nx H3) := by
  refine ⟨fun i m H2 => ∃ μ2 st2, Stp μ H μ2 H2 ∧ RS X.K X.mg μ2 H2 st2 ∧ m = di.items.length - i ∧ loopC n di g wt we env Q (di.items.drop i) st2, ⟨_, μ, st, .refl, rs, rfl, lp⟩, ?_⟩
  rintro i m H2 ⟨μ2, st2, s2, rs2, rfl, lp⟩
  by_cases hi : i < di.items.length
  · obtain ⟨d, hd⟩ : ∃ d, di.items[i]? = some d := ⟨_, List.getElem?_eq_getElem hi⟩
    have ed : di.items.drop i = d :: di.items.drop (i + 1) := by
      rw [List.drop_eq_getElem_cons hi]
      rw [List.getElem?_eq_getElem hi] at hd
      cases hd; rfl
    rw [ed] at lp
    obtain ⟨ok, lp⟩ := lp
    obtain ⟨go, yl⟩ := (jk μ2 H2 st2 i s2 rs2 ok).1 d hd
    refine .inr ⟨go, fun H' => ∃ μ' st', Stp μ H μ' H' ∧ RS X.K X.mg μ' H' st' ∧ loopC n di g wt we env Q (di.items.drop (i + 1)) st', ?_, ?_⟩
    · rintro H' ⟨μ', st', a1, a2, a3⟩
      exact ⟨_, by omega, μ', st', a1, a2, rfl, a3⟩
    · intro x H3 y
      obtain ⟨s3, rs3, r3⟩ := yl x H3 y
      have s23 := s2.trans s3
      refine tg x d μ2 H3 st2 env σ _ _ rs3 (re.step s23) r3 lp fun env4 σ4 re4 p4 w4 => ⟨w4.trans hv, ?_⟩
      refine ⟨μ2, env4, st2, _, rs3, re4, p4, fun b st5 H5 μ5 p5 s5 rs5 => ?_⟩
      cases b with
      | false => exact ⟨μ5, st5, s23.trans s5, rs5, p5⟩
      | true =>
        refine ⟨μ5, env4, st5, _, rs5, re4.step s5, p5, fun y st6 v6 H6 μ6 ⟨acc, e1, e2, e3⟩ s6 rs6 r6 => ?_⟩
        have s26 := (s23.trans s5).trans s6
        have hn : μ6[n]? = some L := s26.get hL
        obtain ⟨us, h3, t3⟩ := rs6.at_ _ _ _ hn e1
        have wr : Stp μ6 H6 μ6 (upd H6 L (.lst (us ++ [v6]))) := Stp.write h3 (fun _ z => nomatch z) fun _ _ z => nomatch z
        exact ⟨us, h3, by rw [t3.length]; exact e2, μ6, List.set st6 n (.lst (acc ++ [y])), s26.trans wr, rs6.write (ob := .lst (acc ++ [y])) hn wr ⟨_, upd_same, ((t3.append (.cons r6 .nil)).step wr)⟩, e3⟩
  · rw [List.drop_of_length_le (by omega)] at lp
    exact .inl ⟨(jk μ2 H2 st2 i s2 rs2 lp.1).2 (by omega), fin μ2 H2 st2 s2 rs2 lp.2⟩
theorem wipe_idem {σ : L2.St} : ∀ {vs : List Nat}, L2.wipe (L2.wipe σ vs) vs = L2.wipe σ vs := fun {vs} => by
  have key : ∀ (ws : List Nat), (∀ v ∈ ws, v ∈ vs) → ∀ τ : L2.St, L2.wipe (L2.wipe τ ws) vs = L2.wipe τ vs := by
    intro ws
    induction ws with
    | nil => intro _ τ; rfl
    | cons w ws ih =>
      intro h τ
      show L2.wipe ((L2.wipe τ ws).set w none) vs = _
      rw [wipe_set (h w List.mem_cons_self), ih (fun v hv => h v (List.mem_cons_of_mem _ hv))]
  exact key vs (fun _ h => h) σ
variable {elt tg iter : Expr} {ifs : List Expr} {scope : Scope} {own : List (Str × Nat)} {pos : Pos} {wi : WI} {g : WG} {t : TG} {wt : WT} {we : W}
theorem lc_of {σ : L2.St} {H : Hp} {Q : VK} (tk : TgOk X (own.map (·.2)) t g) (h : tD X (wLc (own.map (·.2)) wi g wt we) σ H Q) : tLc (tI X wi) t (tT X wt) (tD X we) (own.map (·.2)) σ H Q := by
  obtain ⟨μ, env, st, P, rs, re, w, f⟩ := h
  refine ⟨μ, env, st, _, rs, re, w, fun di st1 H1 μ1 J lp s1 rs1 jk L hL => ?_⟩
  have al : Stp μ1 H1 (μ1 ++ [L]) (upd H1 L (.lst [])) := Stp.alloc hL
  have rsA : RS X.K X.mg (μ1 ++ [L]) (upd H1 L (.lst [])) (st1 ++ [.lst []]) := rs1.alloc hL ⟨[], upd_same, .nil⟩
  have hn : (μ1 ++ [L])[st1.length]? = some L := by rw [← rs1.len]; simp
  obtain ⟨W, h0, ht⟩ := turns_of (X := X) (R := fun H2 => Q (.ref L) H2) tk hn (fun μ2 H2 st2 i s => jk μ2 H2 st2 i (al.trans s)) rsA (((re.step s1).step al).wipe (own.map (·.2))) wipe_idem lp
    (fun μ2 H2 st2 s2 rs2 p => f _ st2 _ H2 μ2 p ((s1.trans al).trans s2) rs2 (.ref (s2.get hn)))
  exact ⟨W, h0, ht⟩
theorem s_lc (hc : X.calm = true) (hN : X.N.Nodup) (hi : SndI X tg iter wi) (ok : BlkOk X.N X.env.scope scope own) (hg : ∀ (s : Shared) (H : Hp) (C : Addr) (cl : List (Str × Addr)) (fp : List Addr), PG (X.blk s H scope (compEnvC scope cl C X.env) fp) tg t)
    (tk : TgOk X (own.map (·.2)) t g) (ht : ∀ (s : Shared) (H : Hp) (C : Addr) (cl : List (Str × Addr)) (fp : List Addr), PTs (X.blk s H scope (compEnvC scope cl C X.env) fp) ifs (tT X wt))
    (he : ∀ (s : Shared) (H : Hp) (C : Addr) (cl : List (Str × Addr)) (fp : List Addr), PE (X.blk s H scope (compEnvC scope cl C X.env) fp) elt (tD X we)) (hs : ∀ x, foldedSetIterable iter X.env x = pure x) :
    Snd X (.ListComp elt [⟨tg, iter, ifs, 0⟩] scope pos) (wLc (own.map (·.2)) wi g wt we) := (pe_lc hc hN hi ok hg ht he hs).imp fun σ H Q h => lc_of tk h
theorem s_setLc {i : Nat} {y : Str} {py spos : Pos} (hc : X.calm = true) (hN : X.N.Nodup) (hy : X.N[i]? = some y) (hyl : X.env.scope.names.lookup y = some .local) (hsw : swapsWith (.ListComp elt [⟨tg, iter, ifs, 0⟩] scope pos) (some (.Name y py)) spos.line X.env = pure true)
    (hi : SndI X tg iter wi) (ok : BlkOk X.N X.env.scope scope own) (hg : ∀ (s : Shared) (H : Hp) (C : Addr) (cl : List (Str × Addr)) (fp : List Addr), PG (X.blk s H scope (compEnvC scope cl C X.env) fp) tg t)
    (tk : TgOk X (own.map (·.2)) t g) (ht : ∀ (s : Shared) (H : Hp) (C : Addr) (cl : List (Str × Addr)) (fp : List Addr), PTs (X.blk s H scope (compEnvC scope cl C X.env) fp) ifs (tT X wt))
    (he : ∀ (s : Shared) (H : Hp) (C : Addr) (cl : List (Str × Addr)) (fp : List Addr), PE (X.blk s H scope (compEnvC scope cl C X.env) fp) elt (tD X we)) (hs : ∀ x, foldedSetIterable iter X.env x = pure x) :
    SndS X (.Assign [.Name y py] (.ListComp elt [⟨tg, iter, ifs, 0⟩] scope pos) spos) (wAsg (wLc (own.map (·.2)) wi g wt we) (gNm i)) :=
  (ps_setLc hc hN hy hyl hsw hi ok hg ht he hs).imp fun D σ H ⟨μ, env, st, P, rs, re, p, f⟩ => lc_of tk ⟨μ, env, st, _, rs, re, p, fun d st1 v H1 μ1 p1 s1 rs1 r1 => f.nx _ st1 _ H1 μ1 p1 s1 rs1 ((re.step s1).set i r1)⟩
/-! two clauses -/
def loopC2 (n : Nat) (di : DI) (g : WG) (t : WT) (wi1 : WI) (g1 : WG) (t1 : WT) (e : W) (vs1 : List Nat) (env : Ev) (Q : Sto → Prop) : List D → Sto → Prop
  | [], st => di.ok st ∧ Q st
  | d :: r, st => di.ok st ∧ g d env st fun env1 st1 => t env1 st1 fun b st2 =>
      if b = true then wi1 env1 st2 fun dj st3 => loopC n dj g1 t1 e (wipeE env1 vs1) (fun st4 => loopC2 n di g t wi1 g1 t1 e vs1 env Q r st4) dj.items st3 else loopC2 n di g t wi1 g1 t1 e vs1 env Q r st2
def wLc2 (own vs1 : List Nat) (wi : WI) (g : WG) (t : WT) (wi1 : WI) (g1 : WG) (t1 : WT) (e : W) : W := fun env st P => wi env st fun di st1 =>
  loopC2 st1.length di g t wi1 g1 t1 e vs1 (wipeE env own) (fun st' => P (.ref st1.length) st') di.items (st1 ++ [.lst []])
variable {tg1 iter1 : Expr} {ifs1 : List Expr} {vs1 : List Nat} {wi1 : WI} {g1 : WG} {t1 : TG} {wt1 : WT}
theorem lc2_of {σ : L2.St} {H : Hp} {Q : VK} (tk : TgOk X (own.map (·.2)) t g) (tk1 : TgOk X vs1 t1 g1) (h : tD X (wLc2 (own.map (·.2)) vs1 wi g wt wi1 g1 wt1 we) σ H Q) :
    tLc2 (tI X wi) t (tT X wt) (tI X wi1) t1 (tT X wt1) (tD X we) (own.map (·.2)) vs1 σ H Q := by
  obtain ⟨μ, env, st, P, rs, re, w, f⟩ := h
  refine ⟨μ, env, st, _, rs, re, w, fun di st1 H1 μ1 J lp s1 rs1 jk L hL => ?_⟩
  have al : Stp μ1 H1 (μ1 ++ [L]) (upd H1 L (.lst [])) := Stp.alloc hL
  have rsA : RS X.K X.mg (μ1 ++ [L]) (upd H1 L (.lst [])) (st1 ++ [.lst []]) := rs1.alloc hL ⟨[], upd_same, .nil⟩
  have hn : (μ1 ++ [L])[st1.length]? = some L := by rw [← rs1.len]; simp
  have reA : RE X.K X.mg (μ1 ++ [L]) (upd H1 L (.lst [])) (L2.wipe σ (own.map (·.2))) (wipeE env (own.map (·.2))) := ((re.step s1).step al).wipe (own.map (·.2))
  refine ⟨fun i m H2 => ∃ μ2 st2, Stp (μ1 ++ [L]) (upd H1 L (.lst [])) μ2 H2 ∧ RS X.K X.mg μ2 H2 st2 ∧ m = di.items.length - i ∧
    loopC2 st1.length di g wt wi1 g1 wt1 we vs1 (wipeE env (own.map (·.2))) (fun st' => P (.ref st1.length) st') (di.items.drop i) st2, ⟨_, μ1 ++ [L], _, .refl, rsA, rfl, lp⟩, ?_⟩
  rintro i m H2 ⟨μ2, st2, s2, rs2, rfl, lp⟩
  by_cases hi : i < di.items.length
  · obtain ⟨d, hd⟩ : ∃ d, di.items[i]? = some d := ⟨_, List.getElem?_eq_getElem hi⟩
    have ed : di.items.drop i = d :: di.items.drop (i + 1) := by
      rw [List.drop_eq_getElem_cons hi]
      rw [List.getElem?_eq_getElem hi] at hd
      cases hd; rfl
    rw [ed] at lp
    obtain ⟨ok, lp⟩ := lp
    obtain ⟨go, yl⟩ := (jk μ2 H2 st2 i (al.trans s2) rs2 ok).1 d hd
    refine .inr ⟨go, fun H' => ∃ μ' st', Stp (μ1 ++ [L]) (upd H1 L (.lst [])) μ' H' ∧ RS X.K X.mg μ' H' st' ∧
      loopC2 st1.length di g wt wi1 g1 wt1 we vs1 (wipeE env (own.map (·.2))) (fun st' => P (.ref st1.length) st') (di.items.drop (i + 1)) st', ?_, ?_⟩
    · rintro H' ⟨μ', st', a1, a2, a3⟩
      exact ⟨_, by omega, μ', st', a1, a2, rfl, a3⟩
    · intro x H3 y
      obtain ⟨s3, rs3, r3⟩ := yl x H3 y
      have s23 := s2.trans s3
      refine tk x d μ2 H3 st2 _ _ _ _ rs3 (reA.step s23) r3 lp fun env4 σ4 re4 p4 w4 => ⟨w4.trans wipe_idem, ?_⟩
      refine ⟨μ2, env4, st2, _, rs3, re4, p4, fun b st5 H5 μ5 p5 s5 rs5 => ?_⟩
      cases b with
      | false => exact ⟨μ5, st5, s23.trans s5, rs5, p5⟩
      | true =>
        refine ⟨μ5, env4, st5, _, rs5, re4.step s5, p5, fun dj st6 H6 μ6 J1 lp1 s6 rs6 jk1 => ?_⟩
        have s26 := (s23.trans s5).trans s6
        obtain ⟨W1, h0, ht⟩ := turns_of (X := X) (R := fun H' => ∃ μ' st', Stp (μ1 ++ [L]) (upd H1 L (.lst [])) μ' H' ∧ RS X.K X.mg μ' H' st' ∧
            loopC2 st1.length di g wt wi1 g1 wt1 we vs1 (wipeE env (own.map (·.2))) (fun st' => P (.ref st1.length) st') (di.items.drop (i + 1)) st') tk1 (s26.get hn) jk1 rs6 (((re4.step s5).step s6).wipe vs1) wipe_idem lp1
          (fun μ7 H7 st7 s7 rs7 p7 => ⟨μ7, st7, s26.trans s7, rs7, p7⟩)
        exact ⟨W1, h0, ht⟩
  · rw [List.drop_of_length_le (by omega)] at lp
    exact .inl ⟨(jk μ2 H2 st2 i (al.trans s2) rs2 lp.1).2 (by omega), f _ st2 _ H2 μ2 lp.2 ((s1.trans al).trans s2) rs2 (.ref (s2.get hn))⟩
theorem s_lc2 (hc : X.calm = true) (hN : X.N.Nodup) (hi : SndI X tg iter wi) (ok : BlkOk X.N X.env.scope scope own) (hv : ∀ i ∈ vs1, i ∈ own.map (·.2))
    (hg : ∀ (s : Shared) (H : Hp) (C : Addr) (cl : List (Str × Addr)) (fp : List Addr), PG (X.blk s H scope (compEnvC scope cl C X.env) fp) tg t) (tk : TgOk X (own.map (·.2)) t g)
    (ht : ∀ (s : Shared) (H : Hp) (C : Addr) (cl : List (Str × Addr)) (fp : List Addr), PTs (X.blk s H scope (compEnvC scope cl C X.env) fp) ifs (tT X wt))
    (hi1 : ∀ (s : Shared) (H : Hp) (C : Addr) (cl : List (Str × Addr)) (fp : List Addr), PI (X.blk s H scope (compEnvC scope cl C X.env) fp) tg1 iter1 (tI X wi1))
    (hg1 : ∀ (s : Shared) (H : Hp) (C : Addr) (cl : List (Str × Addr)) (fp : List Addr), PG (X.blk s H scope (compEnvC scope cl C X.env) fp) tg1 t1) (tk1 : TgOk X vs1 t1 g1)
    (ht1 : ∀ (s : Shared) (H : Hp) (C : Addr) (cl : List (Str × Addr)) (fp : List Addr), PTs (X.blk s H scope (compEnvC scope cl C X.env) fp) ifs1 (tT X wt1))
    (he : ∀ (s : Shared) (H : Hp) (C : Addr) (cl : List (Str × Addr)) (fp : List Addr), PE (X.blk s H scope (compEnvC scope cl C X.env) fp) elt (tD X we)) (hs : ∀ x, foldedSetIterable iter X.env x = pure x) (hs1 : ∀ env x, foldedSetIterable iter1 env x = pure x) :
    Snd X (.ListComp elt [⟨tg, iter, ifs, 0⟩, ⟨tg1, iter1, ifs1, 0⟩] scope pos) (wLc2 (own.map (·.2)) vs1 wi g wt wi1 g1 wt1 we) := (pe_lc2 hc hN hi ok hv hg ht hi1 hg1 ht1 he hs hs1).imp fun σ H Q h => lc2_of tk tk1 h
theorem s_setLc2 {i : Nat} {y : Str} {py spos : Pos} (hc : X.calm = true) (hN : X.N.Nodup) (hy : X.N[i]? = some y) (hyl : X.env.scope.names.lookup y = some .local)
    (hsw : swapsWith (.ListComp elt [⟨tg, iter, ifs, 0⟩, ⟨tg1, iter1, ifs1, 0⟩] scope pos) (some (.Name y py)) spos.line X.env = pure true) (hi : SndI X tg iter wi) (ok : BlkOk X.N X.env.scope scope own) (hv : ∀ i ∈ vs1, i ∈ own.map (·.2))
    (hg : ∀ (s : Shared) (H : Hp) (C : Addr) (cl : List (Str × Addr)) (fp : List Addr), PG (X.blk s H scope (compEnvC scope cl C X.env) fp) tg t) (tk : TgOk X (own.map (·.2)) t g)
    (ht : ∀ (s : Shared) (H : Hp) (C : Addr) (cl : List (Str × Addr)) (fp : List Addr), PTs (X.blk s H scope (compEnvC scope cl C X.env) fp) ifs (tT X wt))
    (hi1 : ∀ (s : Shared) (H : Hp) (C : Addr) (cl : List (Str × Addr)) (fp : List Addr), PI (X.blk s H scope (compEnvC scope cl C X.env) fp) tg1 iter1 (tI X wi1))
    (hg1 : ∀ (s : Shared) (H : Hp) (C : Addr) (cl : List (Str × Addr)) (fp : List Addr), PG (X.blk s H scope (compEnvC scope cl C X.env) fp) tg1 t1) (tk1 : TgOk X vs1 t1 g1)
    (ht1 : ∀ (s : Shared) (H : Hp) (C : Addr) (cl : List (Str × Addr)) (fp : List Addr), PTs (X.blk s H scope (compEnvC scope cl C X.env) fp) ifs1 (tT X wt1))
    (he : ∀ (s : Shared) (H : Hp) (C : Addr) (cl : List (Str × Addr)) (fp : List Addr), PE (X.blk s H scope (compEnvC scope cl C X.env) fp) elt (tD X we)) (hs : ∀ x, foldedSetIterable iter X.env x = pure x) (hs1 : ∀ env x, foldedSetIterable iter1 env x = pure x) :
    SndS X (.Assign [.Name y py] (.ListComp elt [⟨tg, iter, ifs, 0⟩, ⟨tg1, iter1, ifs1, 0⟩] scope pos) spos) (wAsg (wLc2 (own.map (·.2)) vs1 wi g wt wi1 g1 wt1 we) (gNm i)) :=
  (ps_setLc2 hc hN hy hyl hsw hi ok hv hg ht hi1 hg1 ht1 he hs hs1).imp fun D σ H ⟨μ, env, st, P, rs, re, p, f⟩ => lc2_of tk tk1 ⟨μ, env, st, _, rs, re, p, fun d st1 v H1 μ1 p1 s1 rs1 r1 => f.nx _ st1 _ H1 μ1 p1 s1 rs1 ((re.step s1).set i r1)⟩
end

/-! ### a, b, c = x, y, z with plain local names: stored from the right -/
def setAll (env : Ev) : List Nat → List D → Ev
  | i :: is, d :: ds => (setAll env is ds).set i (some d)
  | _, _ => env
def setAllV (σ : L2.St) : List Nat → List V → L2.St
  | i :: is, d :: ds => (setAllV σ is ds).set i (some d)
  | _, _ => σ
def wPar (is : List Nat) (wa : WA) : WS := fun E env st => wa env st fun ds st1 => ds.length = is.length ∧ E.nx (setAll env is ds) st1
section
variable {X : Cx}
theorem re_setAll {μ : List Addr} {H : Hp} {σ : L2.St} {env : Ev} (re : RE X.K X.mg μ H σ env) : ∀ {is : List Nat} {vs : List V} {ds : List D}, Rvs X.K X.mg μ H vs ds → RE X.K X.mg μ H (setAllV σ is vs) (setAll env is ds)
  | [], _, _, _ => by simpa [setAll, setAllV] using re
  | _ :: _, _, _, .nil => by simpa [setAll, setAllV] using re
  | i :: is, _, _, .cons r t => by simpa [setAll, setAllV] using (re_setAll re (is := is) t).set i r
/-- stores of the names, in the order of the list -/
theorem stores_of {M : Model} {A : Around} {E : Value → Shared → Prop} {pins : List (Addr × Obj)} {H : Hp} {Q : Unit → Shared → Prop} (hN : X.N.Nodup) :
    ∀ {ps : List (Str × Nat)} {vs : List V} {us : List Value} {σ : L2.St} {s : Shared}, (∀ p ∈ ps, X.N[p.2]? = some p.1 ∧ X.env.scope.names.lookup p.1 = some .local) → ps.length = vs.length → L2.Inv X pins σ H s → Vals vs us →
      (∀ s', L2.Inv X pins ((ps.zip vs).foldl (fun τ q => τ.set q.1.2 (some q.2)) σ) H s' → Q () s') → wpAny M A (assignInOrder (ps.map fun p => fun v => bindName X.env p.1 v) us) Q E s
  | [], [], _, σ, s, _, _, I, .nil, q => assignInOrder_nil (q s I)
  | p :: ps, v :: vs, _, σ, s, h, hl, I, .cons r t, q => by
    obtain ⟨h1, h2⟩ := h p List.mem_cons_self
    refine assignInOrder_cons (wpAny_bindName (store_ok I hN h1 (.inl h2) r (fun s2 I2 => ?_) (.inr h2)))
    exact stores_of hN (fun p hp => h p (List.mem_cons_of_mem _ hp)) (by simpa using hl) I2 t q
  | [], _ :: _, _, _, _, _, hl, _, _, _ => by simp at hl
  | _ :: _, [], _, _, _, _, hl, _, _, _ => by simp at hl
theorem fold_rev : ∀ {is : List Nat} {vs : List V} {σ : L2.St}, is.length = vs.length → ((is.zip vs).reverse).foldl (fun τ q => τ.set q.1 (some q.2)) σ = setAllV σ is vs
  | [], [], _, _ => rfl
  | i :: is, v :: vs, σ, h => by
    rw [List.zip_cons_cons, List.reverse_cons, List.foldl_append, fold_rev (by simpa using h)]
    rfl
  | [], _ :: _, _, h => by simp at h
  | _ :: _, [], _, h => by simp at h
theorem vals_rev : ∀ {vs : List V} {us : List Value}, Vals vs us → Vals vs.reverse us.reverse := fun r => r.reverse
theorem par_fin {ps : List (Str × Nat)} {pins : List (Addr × Obj)} {σ : L2.St} {H1 : Hp} {vs : List V} {us : List Value} {s2 : Shared} {t : Addr} (hc : X.calm = true) (hN : X.N.Nodup) (hh : X.A.handled = none) (hps : ∀ p ∈ ps, X.N[p.2]? = some p.1 ∧ X.env.scope.names.lookup p.1 = some .local)
    (I2 : L2.Inv X pins σ H1 s2) (ht : IsTup s2.heap t us.toArray) (lu : us.length = ps.length) (r1 : Vals vs us) (l1 : vs.length = ps.length) {Q : Flow → Shared → Prop} {E : Value → Shared → Prop}
    (q1 : ∀ s', L2.Inv X pins (setAllV σ (ps.map (·.2)) vs) H1 s' → Q Flow.next s') :
    wpAny (model X.prog X.w) X.A (do rule "assign.swapped-stores"; let items ← unpackItems (.ref t) (ps.map (·.1)).length none; assignInOrder ((ps.map (·.1)).reverse.map fun n => bindName X.env n) items.reverse; pure Flow.next) Q E s2 := by
  have un : (ps.map (·.1)).length = us.toArray.size := by simp [lu]
  rw [un]
  refine wpAny_bind (wpAny_rule (wpAny_bind (unpackItems_tuple (items := us.toArray) hh ht fun h' hx' => ?_)))
  have I3 := I2.kept (h' := h') (t' := s2.toks) fun b o e => hx' b o (Nat.ne_of_lt (Heap.lt_size e)) e
  have em : ((ps.map (·.1)).reverse.map fun n => bindName X.env n) = ps.reverse.map fun p => fun v => bindName X.env p.1 v := by rw [← List.map_reverse, List.map_map]; rfl
  rw [em]
  have ez : (ps.reverse.zip vs.reverse).foldl (fun τ q => τ.set q.1.2 (some q.2)) σ = setAllV σ (ps.map (·.2)) vs := by
    have zr : ps.reverse.zip vs.reverse = (ps.zip vs).reverse := by
      simp only [List.zip, List.reverse_zipWith l1.symm]
    rw [← fold_rev (by simp [l1]), zr, List.zip_map_left, ← List.map_reverse, List.foldl_map]
    rfl
  refine wpAny_bind (stores_of hN (fun p hp => hps p (List.mem_reverse.mp hp)) (vs := vs.reverse) (by simp [l1]) I3 (by simpa using vals_rev r1) fun s2 I4 => wpAny_pure (q1 _ ?_))
  rw [ez] at I4
  exact I4
theorem s_par {ts es : List Expr} {ps : List (Str × Nat)} {k k2 : Nat} {pt pt2 pos : Pos} {wa : WA} (hc : X.calm = true) (hN : X.N.Nodup) (hps : ∀ p ∈ ps, X.N[p.2]? = some p.1 ∧ X.env.scope.names.lookup p.1 = some .local)
    (ha : SndA X es wa) (hw : swappedStores [.Tuple ts k pt] (.Tuple es k2 pt2) X.env = pure (some (ps.map (·.1)))) (hs : swapsWithSole [.Tuple ts k pt] (.Tuple es k2 pt2) pos.line X.env = pure false) (hz : ps.length ≤ sizeLine) :
    SndS X (.Assign [.Tuple ts k pt] (.Tuple es k2 pt2) pos) (wPar (ps.map (·.2)) wa) := by
  refine ⟨fun pins s σ H D I ⟨μ, env, st, P, rs, re, w, f⟩ => ?_⟩
  rw [exec_Assign_arm]
  refine wpAny_bind (wpAny_standAt ?_)
  rw [hs]
  refine wpAny_bind (wpAny_pure ?_)
  rw [if_neg (by decide)]
  have ha' := ha.run pt2 pins s σ H (fun vs H1 => vs.length = ps.length ∧ D.nx (setAllV σ (ps.map (·.2)) vs) H1) I ⟨μ, env, st, _, rs, re, w, fun ds st1 vs H1 μ1 ⟨l1, p1⟩ s1 rs1 r1 =>
    ⟨by rw [r1.length, l1, List.length_map], f.nx _ st1 _ H1 μ1 p1 s1 rs1 (re_setAll (re.step s1) r1)⟩⟩
  refine wpAny_bind (Tuple_ (thn ha' fun us s1 ⟨vs, H1, I1, r1, l1, q1⟩ => ?_))
  have lu : us.length = ps.length := by rw [← r1.length]; exact l1
  refine wpAny_newObj_type ?_ (by show us.toArray.size ≤ _; simpa [lu] using hz)
  have I2 : L2.Inv X pins σ H1 { s1 with heap := s1.heap.push { cls := .type "tuple", data := .seq us.toArray } } := I1.kept (t' := s1.toks) fun b o e => Heap.get?_push_of_some _ e
  rw [hw]
  refine wpAny_bind (wpAny_pure ?_)
  exact par_fin hc hN (I.ok.hd hc) hps I2 (IsTup.new s1.heap us.toArray) lu r1 l1 fun s' I' => ⟨_, H1, I', q1⟩
end
end DX

set_option Elab.async false
set_option linter.all false
set_option maxRecDepth 100000
set_option maxHeartbeats 1000000
/-! DX, part g: calls of defs, fields, methods, making, the rule for a def. -/
namespace DX
open PySem PySem.Spec PyProof.Rows L2

abbrev DSp := List D → Sto → DP → Prop
section
variable (P : Program) (w : World) (K : PySem.W.Frag) (mg : Str → Option Value) (base : Heap)
def FulK (μ : List Addr) (H : Hp) (P : DP) (Q : VK) : Prop :=
  ∀ d st v H' μ', P d st → Stp μ H μ' H' → RS K mg μ' H' st → Rv K mg μ' H' v d → Q v H'
/-- a promise about data, as one about values -/
def lf (n : Nat) (sp : DSp) : L2.Sp := fun vs H Q _ => vs.length = n ∧ ∃ μ ds st P, RS K mg μ H st ∧ Rvs K mg μ H vs ds ∧ sp ds st P ∧ FulK K mg μ H P Q
/-- a def of the module without defaults -/
structure Fn (st : Stmt) (x qual : Str) (ps : List Str) (f : Addr) (fd : FuncData) : Prop where
  F : FunD K x qual (defArgs st) (defBody st) (defScope st) [] [] f fd
  b : Binds K fd ps []
/-- a def that may be called by its name -/
structure Cl (k : Nat) (st : Stmt) (x : Str) (ps : List Str) (sp : DSp) : Prop where
  ex : ∃ (f : Addr) (fd : FuncData), FnOk P w K mg base CX0 k f fd ps (lf K mg ps.length sp) ∧ mg x = some (.ref f) ∧ Fn K st x x ps f fd
/-- a method that may be called of instances of the class -/
structure Mt (k : Nat) (C m : Str) (ps : List Str) (sp : DSp) : Prop where
  ex : ∃ (Ca f : Addr) (fd : FuncData), mg C = some (.ref Ca) ∧ L2.Cls K Ca ∧ L2.Meth K Ca m f ∧ FnOk P w K mg base CX0 k f fd ps (lf K mg ps.length sp) ∧ Binds K fd ps []
/-- a class that may be made -/
structure Mk1 (k : Nat) (C : Str) (ps : List Str) (sp : DSp) : Prop where
  ex : ∃ (Ca f : Addr) (fd : FuncData), mg C = some (.ref Ca) ∧ L2.Mk K Ca f ∧ FnOk P w K mg base CX0 k f fd ps (lf K mg ps.length sp) ∧ Binds K fd ps []
/-- a field that instances hold -/
structure Fd (C f : Str) : Prop where
  ex : ∃ Ca, mg C = some (.ref Ca) ∧ L2.Cls K Ca ∧ L2.NoAttr K Ca f
end
theorem lf_imp {K : PySem.W.Frag} {mg : Str → Option Value} {n : Nat} {sp sp' : DSp} (h : ∀ ds st P, sp' ds st P → sp ds st P) : ∀ vs H Q E, lf K mg n sp' vs H Q E → lf K mg n sp vs H Q E :=
  fun vs H Q E ⟨l, μ, ds, st, P, rs, r, q, f⟩ => ⟨l, μ, ds, st, P, rs, r, h _ _ _ q, f⟩

section
variable {X : Cx} {k j : Nat} {C x m f : Str} {ps ks : List Str} {sp : DSp} {p pos apos pos' kpos : Pos} {e o : Expr} {es : List Expr} {wo we : W} {wa : WA} {st : Stmt}
/-- n given ahead (none, or the instance) -/
def wDef (n : Nat) (sp : DSp) (wa : WA) : W := fun env st P => wa env st fun ds st1 => ds.length = n ∧ sp ds st1 P
theorem s_call (c : Cl X.prog X.w X.K X.mg X.base k st x ps sp) (hr : Room j X.A) (hk : k ≤ j) (hg : Gl X x) (ha : SndA X (e :: es) wa)
    (hdb : (x == ("__debug__" : Str)) = false) (he : starEach (e :: es) X.env = (false, eval e X.env) :: starEach es X.env) (hpl : (backTo pos (starEach es X.env)).any (·.1) = false) :
    Snd X (.Call (.Name x p) (e :: es) [] pos) (wDef ps.length sp wa) := by
  obtain ⟨f, fd, F, hm, hF⟩ := c.ex
  exact (pe_call F (hr.mono hk) hg hm hF.F.kp hF.b .nil pass0 (E := E0) ha hdb he hpl).imp fun σ H Q ⟨μ, env, st, P, rs, re, hw, f⟩ => ⟨μ, env, st, _, rs, re, hw, fun ds st1 vs H1 μ1 ⟨l, q⟩ s1 rs1 r1 => by
    show lf X.K X.mg ps.length sp (vs ++ []) H1 Q E0
    rw [List.append_nil]
    exact ⟨r1.length.trans l, μ1, ds, st1, P, rs1, r1, q, f.then_ s1⟩⟩
theorem s_call0 (c : Cl X.prog X.w X.K X.mg X.base k st x [] sp) (hr : Room j X.A) (hk : k ≤ j) (hg : Gl X x) (hdb : (x == ("__debug__" : Str)) = false) :
    Snd X (.Call (.Name x p) [] [] pos) (wDef 0 sp wNil) := by
  obtain ⟨f, fd, F, hm, hF⟩ := c.ex
  exact (pe_call0 F (hr.mono hk) hg hm hF.F.kp hF.b .nil pass0 (E := E0) hdb).imp fun σ H Q ⟨μ, env, st, P, rs, re, ⟨l, q⟩, f⟩ => ⟨rfl, μ, [], st, P, rs, .nil, q, f⟩

/-! ### f(k = v, ..): keywords alone -/
abbrev SndK (X : Cx) (kws : List Keyword) (w : WA) : Prop := PK X kws (tA X w)
theorem pkImp {kws : List Keyword} {t t' : TA} (h : PK X kws t) (i : ∀ σ H Q, t' σ H Q → t σ H Q) : PK X kws t' := ⟨fun pos pins s σ H Q I q => h.run pos pins s σ H Q I (i σ H Q q)⟩
theorem s_knil : SndK X [] wNil := pkImp pk_nil fun σ H Q ⟨μ, env, st, P, rs, re, p, f⟩ => f _ _ _ _ μ p .refl rs .nil
theorem s_kcons {kws : List Keyword} {nm : Option Str} {wr : WA} (ha : Snd X e we) (hr : SndK X kws wr) : SndK X (⟨nm, e, kpos⟩ :: kws) (wCons we wr) :=
  pkImp (pk_cons ha hr) fun σ H Q ⟨μ, env, st, P, rs, re, p, f⟩ => ⟨μ, env, st, _, rs, re, p, fun d st1 v H1 μ1 p1 s1 rs1 r1 => ⟨μ1, env, st1, _, rs1, re.step s1, p1, fun ds st2 vs H2 μ2 p2 s2 rs2 r2 =>
    f _ st2 _ H2 μ2 p2 (s1.trans s2) rs2 (.cons (r1.step s2) r2)⟩⟩
def permL {α : Type} : List Nat → List α → List α
  | [], _ => []
  | i :: is, xs => match xs[i]? with
    | some x => x :: permL is xs
    | none => permL is xs
theorem vals_get {vs : List V} {us : List Value} (r : Vals vs us) : ∀ i : Nat, (vs[i]? = none ∧ us[i]? = none) ∨ ∃ v u, vs[i]? = some v ∧ us[i]? = some u ∧ RelV v u := fun i => by
  cases e : vs[i]? with
  | none =>
    refine .inl ⟨rfl, ?_⟩
    have := List.getElem?_eq_none_iff.mp e
    exact List.getElem?_eq_none_iff.mpr (by rw [← r.length]; exact this)
  | some v =>
    obtain ⟨u, h1, h2⟩ := r.get e
    exact .inr ⟨v, u, rfl, h1, h2⟩
theorem perm_vals {vs : List V} {us : List Value} (r : Vals vs us) : ∀ is : List Nat, Vals (permL is vs) (permL is us)
  | [] => .nil
  | i :: is => by
    unfold permL
    rcases vals_get r i with ⟨h1, h2⟩ | ⟨v, u, h1, h2, h3⟩
    · rw [h1, h2]; exact perm_vals r is
    · rw [h1, h2]; exact .cons h3 (perm_vals r is)
theorem perm_rvs {K : PySem.W.Frag} {mg : Str → Option Value} {μ : List Addr} {H : Hp} {vs : List V} {ds : List D} (r : Rvs K mg μ H vs ds) : ∀ is : List Nat, Rvs K mg μ H (permL is vs) (permL is ds)
  | [] => .nil
  | i :: is => by
    unfold permL
    cases e : vs[i]? with
    | none =>
      have : ds[i]? = none := List.getElem?_eq_none_iff.mpr (by rw [← r.length]; exact List.getElem?_eq_none_iff.mp e)
      rw [this]; exact perm_rvs r is
    | some v =>
      obtain ⟨d, h1, h2⟩ := r.getV e
      rw [h1]; exact .cons h2 (perm_rvs r is)
/-- is: for each parameter, which keyword -/
def wDefK (n : Nat) (is : List Nat) (sp : DSp) (wa : WA) : W := fun env st P => wa env st fun ds st1 => ds.length = n ∧ (permL is ds).length = n ∧ sp (permL is ds) st1 P
theorem s_callK {kws : List Keyword} {is : List Nat} (c : Cl X.prog X.w X.K X.mg X.base k st x ps sp) (hr : Room j X.A) (hk : k ≤ j) (hg : Gl X x) (ha : SndK X kws wa) (hl : ks.length = ps.length)
    (hbn : ∀ (kV doc pm : Value) (an : Option Addr) (cdv ct : Value) (ws : List Value), ws.length = ps.length → bindArgs (PySem.W.fnOf x x (defArgs st) (defBody st) (defScope st) .none kV doc pm an cdv ct) ⟨[], ks.zip ws⟩ = pure (ps.zip (permL is ws)))
    (hall : (backToKw pos (keywordEach kws X.env)).all (·.1.isSome) = true) (hks : (backToKw pos (keywordEach kws X.env)).filterMap (·.1) = ks)
    (hpl : ((backTo pos (starEach [] X.env)).any (·.1) || (backToKw pos (keywordEach kws X.env)).any (·.1.isNone)) = false) (hdb : (x == ("__debug__" : Str)) = false) :
    Snd X (.Call (.Name x p) [] kws pos) (wDefK ps.length is sp wa) := by
  obtain ⟨f, fd, F, hm, hF⟩ := c.ex
  have B : ∀ (s : Shared) (ws : List Value), X.K.In s.heap → ws.length = ps.length → BindsTo s fd ⟨[], ks.zip ws⟩ (ps.zip (permL is ws)) := fun s ws KI hw => by
    obtain ⟨oc, od, dV, kV, doc, pm, an, cdv, ct, osl, rfl, lk, hcd, hD, hK⟩ := hF.F.ex
    rcases hD with ⟨_, rfl⟩ | ⟨e, _⟩
    · exact .of_eq (hbn kV doc pm an cdv ct ws hw)
    · exact absurd rfl e
  refine ⟨fun pins s σ H Q I ⟨μ, env, st, P, rs, re, hw, f⟩ => ?_⟩
  refine wpAny_Call_Name_kw (ld_glob I hg hm ?_ hdb)
  refine PySem.W.callWith_KW0 (h₀ := X.base) I.ok.mod.kin hF.F.kp hall (thn (ha.run pos pins s σ H (fun zs H1 => zs.length = ps.length ∧ lf X.K X.mg ps.length sp (permL is zs) H1 Q E0) I
    ⟨μ, env, st, _, rs, re, hw, fun ds st1 vs H1 μ1 ⟨l, l2, q⟩ s1 rs1 r1 => ⟨r1.length.trans l, (perm_rvs r1 is).length.trans l2, μ1, _, st1, P, rs1, perm_rvs r1 is, q, f.then_ s1⟩⟩) fun ws s2 ⟨zs, H2, I2, rz, lz, q2⟩ => ⟨I2.kIn, ?_⟩) hpl
  rw [hks]
  have r2 := perm_vals rz is
  refine wpAny_call (codeAny_mono (F.run X.A X.stack s2 H2 ⟨[], ks.zip ws⟩ (permL is ws) (permL is zs) Q E0 (hr.mono hk) I2.env0 (B s2 ws I2.kIn (by rw [← rz.length]; exact lz)) r2 q2) fun r s' hq => ?_)
  cases r with
  | error e => exact (hq : False).elim
  | ok fl =>
    cases fl with
    | ret u => exact I2.after hq
    | next => exact False.elim hq
    | brk => exact False.elim hq
    | cont => exact False.elim hq

/-! ### attributes -/
theorem Rfs.get {K : PySem.W.Frag} {mg : Str → Option Value} {μ : List Addr} {H : Hp} {f : Str} : ∀ {vs : List (Str × V)} {fs : List (Str × D)}, Rfs K mg μ H vs fs → (∀ d, fs.lookup f = some d → ∃ v, vs.lookup f = some v ∧ Rv K mg μ H v d) ∧ (fs.lookup f = none → vs.lookup f = none)
  | _, _, .nil => ⟨fun d h => (by cases h), fun _ => rfl⟩
  | _, _, .cons (x := x) r t => by
    constructor
    · intro d h
      by_cases e : f == x
      · rw [List.lookup_cons, e] at h ⊢; cases h; exact ⟨_, rfl, r⟩
      · rw [List.lookup_cons] at h ⊢
        simp only [Bool.not_eq_true] at e
        rw [e] at h ⊢
        exact (Rfs.get t).1 d h
    · intro h
      by_cases e : f == x
      · rw [List.lookup_cons, e] at h; cases h
      · rw [List.lookup_cons] at h ⊢
        simp only [Bool.not_eq_true] at e
        rw [e] at h ⊢
        exact (Rfs.get t).2 h
theorem Rfs.length {K : PySem.W.Frag} {mg : Str → Option Value} {μ : List Addr} {H : Hp} : ∀ {vs : List (Str × V)} {fs : List (Str × D)}, Rfs K mg μ H vs fs → vs.length = fs.length
  | _, _, .nil => rfl
  | _, _, .cons _ t => congrArg Nat.succ (Rfs.length t)
def putD (f : Str) (d : D) : List (Str × D) → List (Str × D)
  | [] => [(f, d)]
  | (g, u) :: r => if g = f then (g, d) :: r else (g, u) :: putD f d r
theorem Rfs.put {K : PySem.W.Frag} {mg : Str → Option Value} {μ : List Addr} {H : Hp} {f : Str} {v : V} {d : D} (q : Rv K mg μ H v d) : ∀ {vs : List (Str × V)} {fs : List (Str × D)}, Rfs K mg μ H vs fs → Rfs K mg μ H (putF f v vs) (putD f d fs)
  | _, _, .nil => .cons q .nil
  | _, _, .cons (x := x) r t => by
    unfold putF putD
    by_cases e : x = f
    · rw [if_pos e, if_pos e]; exact .cons q t
    · rw [if_neg e, if_neg e]; exact .cons r (Rfs.put q t)
/-- o.f of an instance of C -/
def wFl (C f : Str) (wo : W) : W := fun env st P => wo env st fun d st1 => ∃ r fs v, d = .ref r ∧ st1[r]? = some (.ins C fs) ∧ fs.lookup f = some v ∧ P v st1
theorem s_fld (c : Fd X.K X.mg C f) (ho : Snd X o wo) (hb : attributeBase o f X.env (eval o X.env) = eval o X.env) : Snd X (.Attribute o f pos) (wFl C f wo) := by
  obtain ⟨Ca, hC, hcl, hno⟩ := c.ex
  exact (pe_fld ho hb).imp fun σ H Q ⟨μ, env, st, P, rs, re, hw, g⟩ => ⟨μ, env, st, _, rs, re, hw, fun d st1 v H1 μ1 ⟨r, fs, w, e, h1, h2, p⟩ s1 rs1 r1 => by
    subst e
    cases r1 with
    | ref hn =>
      obtain ⟨Ca', dx, vs, hC', hH, rf⟩ := rs1.at_ _ _ _ hn h1
      rw [hC] at hC'; cases hC'
      obtain ⟨y, h3, ry⟩ := (rf.get).1 _ h2
      exact ⟨_, Ca, dx, vs, y, rfl, hH, hcl, hno, h3, g w st1 y H1 μ1 p s1 rs1 ry⟩⟩
/-- o.f = .. -/
def gFl (C f : Str) (wo : W) : WG := fun v env st P => wo env st fun d st1 => ∃ r fs, d = .ref r ∧ st1[r]? = some (.ins C fs) ∧ fs.length < 1000 ∧ P env (st1.set r (.ins C (putD f v fs)))
theorem wpAny_assign_Attr {M : Model} {A : Around} {env : Env} {u : Value} {Q : Unit → Shared → Prop} {E : Value → Shared → Prop} {s : Shared}
    (h : wpAny M A (eval o env) (fun ov s₂ => wpAny M A (setAttr ov f u) (fun _ => Q ()) E s₂) E s) : wpAny M A (assign (.Attribute o f pos') env u) Q E s := fun Γ p hΓ => by
  simp only [assign_Attribute, Sem.wp_bind', Sem.wp_holding, Sem.wp_cmd_standAt, Sem.wp_release, Sem.wp_pure']
  exact Sem.wp_mono M Γ _ (fun ov _ s₂ h₂ => h₂ Γ _ hΓ) (fun _ _ _ h' => h') _ _ (h Γ _ hΓ)
theorem s_gfld (c : Fd X.K X.mg C f) (ho : Snd X o wo) : SndG X (.Attribute o f pos') (gFl C f wo) := by
  obtain ⟨Ca, hC, hcl, hno⟩ := c.ex
  refine ⟨fun pins s σ H v u Q I ru ⟨μ, env, st, d, P, rs, re, r, hw, g⟩ => wpAny_assign_Attr ?_⟩
  refine thn (ho.run pins s σ H (fun v1 H1 => ∃ (a dx : Addr) (vs : List (Str × V)), v1 = V.ref a ∧ H1 a = some (.ins Ca dx vs) ∧ vs.length < 1000 ∧ Q σ (upd H1 a (.ins Ca dx (putF f v vs)))) I ⟨μ, env, st, _, rs, re, hw, fun d1 st1 v1 H1 μ1 ⟨n, fs, e, h1, h2, p⟩ s1 rs1 r1 => ?_⟩) fun ov s2 ⟨x, H2, I2, rx, a, dx, vs, ex, ea, l, q2⟩ => ?_
  · subst e
    cases r1 with
    | @ref a n hn =>
      obtain ⟨Ca', dx, vs, hC', hH, rf⟩ := rs1.at_ _ _ _ hn h1
      rw [hC] at hC'; cases hC'
      have wr : Stp μ1 H1 μ1 (upd H1 a (.ins Ca dx (putF f v vs))) := Stp.write hH (fun _ z => nomatch z) fun _ _ z => nomatch z
      exact ⟨a, dx, vs, rfl, hH, by rw [rf.length]; exact h2, g env _ σ _ μ1 p (s1.trans wr) (rs1.write hn wr ⟨Ca, dx, _, hC, upd_same, (rf.put (r.step s1)).step wr⟩) ((re.step s1).step wr)⟩
  · subst ex
    obtain rfl : ov = Value.ref a := rx
    exact setattr_ok I2 ea hcl hno l ru fun s3 I3 => ⟨σ, _, I3, q2⟩
/-- o.m(..) -/
def wMt (C m : Str) (n : Nat) (sp : DSp) (wo : W) (wa : WA) : W := fun env st P => wo env st fun d st1 => ∃ r fs, d = .ref r ∧ st1[r]? = some (.ins C fs) ∧ fs.lookup m = none ∧ wa env st1 fun ds st2 => ds.length + 1 = n ∧ sp (d :: ds) st2 P
theorem s_meth {pl : Sem Bool} (c : Mt X.prog X.w X.K X.mg X.base k C m ps sp) (hr : Room j X.A) (hk : k ≤ j) (ho : Snd X o wo) (ha : SndA X (e :: es) wa)
    (hst : starEach (e :: es) X.env = (false, eval e X.env) :: starEach es X.env) (hpl : (backTo pos (starEach es X.env)).any (·.1) = false)
    (ht : eval (.Call (.Attribute o m apos) (e :: es) [] pos) X.env = (do
      let ov ← eval o X.env
      standAt apos.atName
      let (f, first) ← holding [ov] (getMethod ov m pl)
      callWith pos f first (backTo pos (starEach (e :: es) X.env)) (backToKw pos (keywordEach [] X.env)))) :
    Snd X (.Call (.Attribute o m apos) (e :: es) [] pos) (wMt C m ps.length sp wo wa) := by
  obtain ⟨Ca, f, fd, hC, hcl, hme, F, b⟩ := c.ex
  exact (pe_meth (pl := pl) ho hcl hme F (hr.mono hk) b .nil pass0 (E := E0) ha hst hpl ht).imp fun σ H Q ⟨μ, env, st, P, rs, re, hw, g⟩ => ⟨μ, env, st, _, rs, re, hw, fun d st1 v H1 μ1 ⟨r, fs, e, h1, h2, p⟩ s1 rs1 r1 => by
    subst e
    cases r1 with
    | ref hn =>
      obtain ⟨Ca', dx, vs, hC', hH, rf⟩ := rs1.at_ _ _ _ hn h1
      rw [hC] at hC'; cases hC'
      exact ⟨_, dx, vs, rfl, hH, (rf.get).2 h2, μ1, env, st1, _, rs1, re.step s1, p, fun ds st2 us H2 μ2 ⟨l, q⟩ s2 rs2 r2 => by
        show lf X.K X.mg ps.length sp (_ :: (us ++ [])) H2 Q E0
        rw [List.append_nil]
        exact ⟨by rw [List.length_cons, r2.length]; exact l, μ2, _, st2, P, rs2, .cons (.ref (s2.get hn)) r2, q, (g.then_ s1).then_ s2⟩⟩⟩
theorem s_meth0 {pl : Sem Bool} (c : Mt X.prog X.w X.K X.mg X.base k C m ps sp) (hr : Room j X.A) (hk : k ≤ j) (ho : Snd X o wo)
    (ht : eval (.Call (.Attribute o m apos) [] [] pos) X.env = (do
      let ov ← eval o X.env
      standAt apos.atName
      let (f, first) ← holding [ov] (getMethod ov m pl)
      callWith pos f first (backTo pos (starEach [] X.env)) (backToKw pos (keywordEach [] X.env)))) :
    Snd X (.Call (.Attribute o m apos) [] [] pos) (wMt C m ps.length sp wo wNil) := by
  obtain ⟨Ca, f, fd, hC, hcl, hme, F, b⟩ := c.ex
  exact (pe_meth0 (pl := pl) ho hcl hme F (hr.mono hk) b .nil pass0 (E := E0) ht).imp fun σ H Q ⟨μ, env, st, P, rs, re, hw, g⟩ => ⟨μ, env, st, _, rs, re, hw, fun d st1 v H1 μ1 ⟨r, fs, e, h1, h2, l, q⟩ s1 rs1 r1 => by
    subst e
    cases r1 with
    | ref hn =>
      obtain ⟨Ca', dx, vs, hC', hH, rf⟩ := rs1.at_ _ _ _ hn h1
      rw [hC] at hC'; cases hC'
      exact ⟨_, dx, vs, rfl, hH, (rf.get).2 h2, l, μ1, _, st1, P, rs1, .cons (.ref hn) .nil, q, g.then_ s1⟩⟩
/-- C(..) -/
def wMk (C : Str) (n : Nat) (sp : DSp) (wa : WA) : W := fun env st P => wa env st fun ds st1 => ds.length + 1 = n ∧ sp (.ref st1.length :: ds) (st1 ++ [.ins C []]) fun d st2 => d = .non ∧ P (.ref st1.length) st2
theorem s_make (c : Mk1 X.prog X.w X.K X.mg X.base k C ps sp) (hr : Room j X.A) (hk : k + 1 ≤ j) (hg : Gl X C) (ha : SndA X (e :: es) wa)
    (hdb : (C == ("__debug__" : Str)) = false) (he : starEach (e :: es) X.env = (false, eval e X.env) :: starEach es X.env) (hpl : (backTo pos (starEach es X.env)).any (·.1) = false) :
    Snd X (.Call (.Name C p) (e :: es) [] pos) (wMk C ps.length sp wa) := by
  obtain ⟨Ca, f, fd, hC, M, F, b⟩ := c.ex
  exact (pe_make M F (hr.mono hk) hg hC b .nil pass0 (E := E0) ha hdb he hpl).imp fun σ H Q ⟨μ, env, st, P, rs, re, hw, g⟩ => ⟨μ, env, st, _, rs, re, hw, fun ds st1 vs H1 μ1 ⟨l, q⟩ s1 rs1 r1 x dx hx hdx hne => by
    show lf X.K X.mg ps.length sp (.ref x :: (vs ++ [])) _ _ E0
    rw [List.append_nil]
    have s2 : Stp μ1 H1 μ1 (upd H1 dx (.own x)) := Stp.fresh hdx
    have rs2 := rs1.fresh (o := .own x) hdx
    have hx2 : upd H1 dx (.own x) x = none := by rw [upd_ne hne.symm]; exact hx
    have s3 : Stp μ1 (upd H1 dx (.own x)) (μ1 ++ [x]) (upd (upd H1 dx (.own x)) x (.ins Ca dx [])) := Stp.alloc hx2
    have rs3 := rs2.alloc (o := .ins Ca dx []) (ob := .ins C []) hx2 ⟨Ca, dx, [], hC, upd_same, .nil⟩
    have hn : (μ1 ++ [x])[st1.length]? = some x := by rw [← rs1.len]; simp
    exact ⟨by rw [List.length_cons, r1.length]; exact l, _, _, _, _, rs3, .cons (.ref hn) ((r1.step s2).step s3), q, fun d st' v H' μ' ⟨e, p⟩ s' rs' r' => by
      subst e; cases r'
      exact ⟨rfl, g (.ref st1.length) st' (.ref x) H' μ' p (((s1.trans s2).trans s3).trans s') rs' (.ref (s'.get hn))⟩⟩⟩

/-! ### displays -/
def wDic0 : W := fun _ st P => P (.ref st.length) (st ++ [.dic []])
theorem s_dic0 : Snd X (.Dict [] [] pos) wDic0 := pe_dnewK.imp fun σ H Q ⟨μ, env, st, P, rs, re, p, f⟩ a ha =>
  f _ _ _ _ (μ ++ [a]) p (Stp.alloc ha) (rs.alloc ha ⟨[], upd_same, .nil⟩) (.ref (by rw [← rs.len]; simp))
/-- *e, .. -/
def wStar (w : W) (r : WA) : WA := fun env st P => w env st fun d st1 => ∃ xs, itemsD st1 d = some xs ∧ r env st1 fun ds st2 => P (xs ++ ds) st2
theorem s_star {wr : WA} {p' : Pos} (he : Snd X e we) (hr : SndA X es wr) (hs : starEach (.Starred e p' :: es) X.env = (true, eval e X.env) :: starEach es X.env) : SndA X (.Starred e p' :: es) (wStar we wr) :=
  (StX.pa_star he hr hs).imp fun σ H Q ⟨μ, env, st, P, rs, re, p, f⟩ => ⟨μ, env, st, _, rs, re, p, fun d st1 v H1 μ1 ⟨xs, h1, p1⟩ s1 rs1 r1 => by
    obtain ⟨a, vs, rfl, hq, t⟩ := items_ok rs1 r1 h1
    exact ⟨a, vs, rfl, hq.symm, μ1, env, st1, _, rs1, re.step s1, p1, fun ds st2 us H2 μ2 p2 s2 rs2 r2 => f _ st2 _ H2 μ2 p2 (s1.trans s2) rs2 ((t.step s2).append r2)⟩⟩
end

/-! ### the rule for a def -/
def startE (n : Nat) (ds : List D) : Ev := ds.map some ++ List.replicate (n - ds.length) none
theorem re_start {K : PySem.W.Frag} {mg : Str → Option Value} {μ : List Addr} {H : Hp} {vs : List V} {ds : List D} {N : List Str} (r : Rvs K mg μ H vs ds) : RE K mg μ H (L2.start N vs) (startE N.length ds) := by
  refine ⟨by unfold L2.start startE; rw [List.length_append, List.length_append, List.length_map, List.length_map, r.length, List.length_replicate, List.length_replicate], fun i d h => ?_⟩
  unfold startE at h
  have hi : i < ds.length := by
    by_cases hi : i < ds.length
    · exact hi
    · rw [List.getElem?_append_right (by simpa using hi), List.getElem?_replicate] at h
      split at h <;> cases h
  rw [List.getElem?_append_left (by simpa using hi), List.getElem?_map] at h
  cases e : ds[i]? with
  | none => rw [e] at h; cases h
  | some d' =>
    rw [e] at h; cases h
    obtain ⟨v, h1, h2⟩ := r.get e
    refine ⟨v, ?_, h2⟩
    unfold L2.start
    rw [List.getElem?_append_left (by rw [List.length_map, r.length]; exact hi), List.getElem?_map, h1]
    rfl
/-- the context of a def's body -/
abbrev Xf (P : Program) (w : World) (K : PySem.W.Frag) (mg : Str → Option Value) (base : Heap) (N : List Str) (qual : Str) (st : Stmt) (f : Addr) (cdv : Value) (A : Around) (outer : List Env) (s : Shared) (H : Hp) (E : XK) : Cx :=
  (cxOf CX0 P w K mg base N qual (defScope st) f cdv A outer s H E).nox
section
variable {P : Program} {w : World} {K : PySem.W.Frag} {mg : Str → Option Value} {base : Heap}
theorem fnok {st : Stmt} {x qual : Str} {N ps : List Str} {f : Addr} {fd : FuncData} {k : Nat} {sp : DSp} {ws : WS} (F : FunD K x qual (defArgs st) (defBody st) (defScope st) [] [] f fd) (S : FnScope N ps (defScope st))
    (hbody : ∀ (cdv : Value) (A : Around) (outer : List Env) (s : Shared) (H : Hp) (E : XK), Room k (A.deeper (envOfC qual (defScope st) s.heap.objs.size f cdv)) → SndSs (Xf P w K mg base N qual st f cdv A outer s H E) (defBody st) ws)
    (hp : ∀ ds st' P', ds.length = ps.length → sp ds st' P' → ws { nx := fun _ st2 => P' .non st2, rt := P' } (startE N.length ds) st') : FnOk P w K mg base CX0 (k + 1) f fd ps (lf K mg ps.length sp) := by
  refine F.ok S (fun vs H Q E h => h.1) fun cdv A outer s H vs Q E hr hsp => ⟨_, PSs.nox (hbody cdv A outer s H E hr), ?_⟩
  obtain ⟨l, μ, ds, st', P', rs, r, q, f⟩ := hsp
  refine ⟨μ, startE N.length ds, st', _, rs, re_start r, hp ds st' P' (r.length.symm.trans l) q, ⟨?_, f, ?_, ?_⟩⟩
  · exact fun env st2 σ H' μ' p s' rs' re' => f .non st2 .non H' μ' p s' rs' .non
  · exact fun env st2 σ H' μ' p s' rs' re' => p.elim
  · exact fun env st2 σ H' μ' p s' rs' re' => p.elim
theorem Cl.of {st : Stmt} {x : Str} {N ps : List Str} {f : Addr} {fd : FuncData} {k : Nat} {sp : DSp} {ws : WS} (F : Fn K st x x ps f fd) (hm : mg x = some (.ref f)) (S : FnScope N ps (defScope st))
    (hbody : ∀ (cdv : Value) (A : Around) (outer : List Env) (s : Shared) (H : Hp) (E : XK), Room k (A.deeper (envOfC x (defScope st) s.heap.objs.size f cdv)) → SndSs (Xf P w K mg base N x st f cdv A outer s H E) (defBody st) ws)
    (hp : ∀ ds st' P', ds.length = ps.length → sp ds st' P' → ws { nx := fun _ st2 => P' .non st2, rt := P' } (startE N.length ds) st') : Cl P w K mg base (k + 1) st x ps sp := ⟨f, fd, fnok F.F S hbody hp, hm, F⟩
theorem Cl.mono {st : Stmt} {x : Str} {ps : List Str} {k j : Nat} {sp : DSp} (c : Cl P w K mg base k st x ps sp) (h : k ≤ j) : Cl P w K mg base j st x ps sp := by
  obtain ⟨f, fd, F, hm, hF⟩ := c.ex
  exact ⟨f, fd, F.mono h, hm, hF⟩
end
end DX

set_option Elab.async false
set_option linter.all false
set_option maxRecDepth 100000
set_option maxHeartbeats 1000000
/-! DX, part h: the rules in short words. -/
namespace DX
open PySem PySem.Spec PyProof.Rows L2
/-- a constant of the module -/
def GM (K : PySem.W.Frag) (mg : Str → Option Value) (x : Str) (d : D) : Prop := ∃ u v, mg x = some u ∧ RelV v u ∧ ∀ μ H, Rv K mg μ H v d
section
variable {X : Cx} {pos p pos' tpos p' p2 apos cpos : Pos} {a b c e o elt tg iter : Expr} {es ifs : List Expr} {x y : Str} {wa wb wc w wo we : W} {wr : WA} {r r' : D → D → Sto → DP → Prop} {ta tb wt : WT} {rest : List Expr} {s : Stmt} {ss : List Stmt} {ws wu : WS}
theorem v (i : Nat) (hN : X.N[i]? = some x := by rfl) (hv : Vis X.env.scope x := by first | exact Or.inl rfl | exact Or.inr (Or.inl rfl) | exact Or.inr (Or.inr rfl)) (hd : (x == ("__debug__" : Str)) = false := by rfl) (hcd : (x == ("__classdict__" : Str)) = false := by rfl) : Snd X (.Name x pos) (wVar i) := s_var hN hv hd hcd
theorem gl {d : D} (h : GM X.K X.mg x d) (hg : Gl X x := by rfl) (hd : (x == ("__debug__" : Str)) = false := by rfl) : Snd X (.Name x pos) (wC d) := s_glob hg h hd
theorem bty (n : String) (hm : X.mg x = none) (hg : Gl X x := by rfl) (hv : bootBuiltins x = some (.type n) := by rfl) (hn : x ≠ "__name__" := by decide) (hd : (x == ("__debug__" : Str)) = false := by rfl) : Snd X (.Name x pos) (wC (.ty n)) :=
  (pe_bltn (v := .ty n) hg hm hv rfl hn hd).imp fun _ _ _ ⟨_, _, _, _, rs, _, p, f⟩ => f.now p rs (.ty n)
theorem bop {op : Operator} (ho : OpD X (binaryOp op) r) (ha : Snd X a wa) (hb : Snd X b wb) : Snd X (.BinOp a op b pos) (wBin r wa wb) := s_bin ho ha hb
theorem cmp {op : CmpOp} (ho : OpD X (compareOp op) r) (ha : Snd X a wa) (hb : Snd X b wb) (hm : behindInMarks op b = false := by rfl) : Snd X (.Compare a [op] [b] pos) (wBin r wa wb) := s_cmp ho ha hb hm
theorem cmpT {op : CmpOp} (ho : OpD X (compareOp op) r) (ha : Snd X a wa) (hb : Snd X b wb) (hm : behindInMarks op b = false := by rfl) : SndT X (.Compare a [op] [b] pos) (wTb (wBin r wa wb)) := s_cmpT ho ha hb hm
theorem chn {op op' : CmpOp} (ho : OpD X (compareOp op) r) (ho' : OpD X (compareOp op') r') (ha : Snd X a wa) (hb : Snd X b wb) (hc : Snd X c wc) (hm : lastMarks [op, op'] [b, c] = false := by rfl) :
    Snd X (.Compare a [op, op'] [b, c] pos) (wChain r r' wa wb wc) := s_chain ho ho' ha hb hc hm
theorem chnT {op op' : CmpOp} (ho : OpD X (compareOp op) r) (ho' : OpD X (compareOp op') r') (ha : Snd X a wa) (hb : Snd X b wb) (hc : Snd X c wc) (hm : lastMarks [op, op'] [b, c] = false := by rfl) :
    SndT X (.Compare a [op, op'] [b, c] pos) (wTb (wChain r r' wa wb wc)) := s_chainT ho ho' ha hb hc hm
theorem tr (ha : Snd X a wa) (he : ∀ whole, isTrue a X.env whole = (do let v ← whole; standAt a.pos; holding [v] (truthy v)) := by intro _; rfl) : SndT X a (wTru wa) := s_truth ha he
theorem andT1 (ha : SndT X a ta) : SndW X (.BoolOp .And [a] pos) ta := s_andW1 ha
theorem orT1 (ha : SndT X a ta) : SndW X (.BoolOp .Or [a] pos) ta := s_orW1 ha
theorem ofW (h : SndW X a ta) : SndT X a ta := h.pt
theorem cons (ha : Snd X e w) (hr : SndA X es wr) (hs : starEach (e :: es) X.env = (false, eval e X.env) :: starEach es X.env := by rfl) : SndA X (e :: es) (wCons w wr) := s_cons ha hr hs
theorem star (ha : Snd X e w) (hr : SndA X es wr) (hs : starEach (.Starred e p' :: es) X.env = (true, eval e X.env) :: starEach es X.env := by rfl) : SndA X (.Starred e p' :: es) (wStar w wr) := s_star ha hr hs
theorem idx (ha : Snd X a wa) (hb : Snd X b wb) (hs : PlainIx b := by intro _ _; rfl) : Snd X (.Subscript a b pos) (wBin rIdx wa wb) := s_idx ha hb hs
theorem blt {id : String} {rc : RC} (hc : CallD X (.builtin id) rc) (hm : X.mg x = none) (ha : SndA X (e :: es) wr) (hg : Gl X x := by rfl) (hv : bootBuiltins x = some (.builtin id) := by rfl) (hn : x ≠ "__name__" := by decide) (hdb : (x == ("__debug__" : Str)) = false := by rfl)
    (he : starEach (e :: es) X.env = (false, eval e X.env) :: starEach es X.env := by rfl) (hpl : (backTo pos (starEach es X.env)).any (·.1) = false := by rfl) : Snd X (.Call (.Name x p) (e :: es) [] pos) (wCall rc wr) := s_blt hc hg hm hv ha hn hdb he hpl
theorem btc {T : String} {rc : RC} (hc : CallD X (.type T) rc) (hm : X.mg x = none) (ha : SndA X (e :: es) wr) (hg : Gl X x := by rfl) (hv : bootBuiltins x = some (.type T) := by rfl) (hn : x ≠ "__name__" := by decide) (hdb : (x == ("__debug__" : Str)) = false := by rfl)
    (he : starEach (e :: es) X.env = (false, eval e X.env) :: starEach es X.env := by rfl) (hpl : (backTo pos (starEach es X.env)).any (·.1) = false := by rfl) : Snd X (.Call (.Name x p) (e :: es) [] pos) (wCall rc wr) := s_bty hc hg hm hv ha hn hdb he hpl
theorem bits (ho : Snd X o wo) (hbase : attributeBase o "bit_length" X.env (eval o X.env) = eval o X.env := by rfl) (hline : (apos.endLine == pos.line) = true := by rfl) : Snd X (.Call (.Attribute o "bit_length" apos) [] [] pos) (wBits wo) := s_bits ho hbase hline
/-! calls of defs -/
variable {k j : Nat} {C m f : Str} {ps ks : List Str} {sp : DSp} {st : Stmt}
theorem call {n : Nat} (c : Cl X.prog X.w X.K X.mg X.base k st x ps sp) (hr : Room j X.A) (hk : k ≤ j) (ha : SndA X (e :: es) wr) (hg : Gl X x := by rfl)
    (hdb : (x == ("__debug__" : Str)) = false := by rfl) (he : starEach (e :: es) X.env = (false, eval e X.env) :: starEach es X.env := by rfl) (hpl : (backTo pos (starEach es X.env)).any (·.1) = false := by rfl) (hn : ps.length = n := by rfl) :
    Snd X (.Call (.Name x p) (e :: es) [] pos) (wDef n sp wr) := by subst hn; exact s_call c hr hk hg ha hdb he hpl
theorem call0 (c : Cl X.prog X.w X.K X.mg X.base k st x [] sp) (hr : Room j X.A) (hk : k ≤ j) (hg : Gl X x := by rfl) (hdb : (x == ("__debug__" : Str)) = false := by rfl) :
    Snd X (.Call (.Name x p) [] [] pos) (wDef 0 sp wNil) := s_call0 c hr hk hg hdb
theorem make {n : Nat} (c : Mk1 X.prog X.w X.K X.mg X.base k C ps sp) (hr : Room j X.A) (hk : k + 1 ≤ j) (ha : SndA X (e :: es) wr) (hg : Gl X C := by rfl)
    (hdb : (C == ("__debug__" : Str)) = false := by rfl) (he : starEach (e :: es) X.env = (false, eval e X.env) :: starEach es X.env := by rfl) (hpl : (backTo pos (starEach es X.env)).any (·.1) = false := by rfl) (hn : ps.length = n := by rfl) :
    Snd X (.Call (.Name C p) (e :: es) [] pos) (wMk C n sp wr) := by subst hn; exact s_make c hr hk hg ha hdb he hpl
theorem meth {n : Nat} {pl : Sem Bool} (c : Mt X.prog X.w X.K X.mg X.base k C m ps sp) (hr : Room j X.A) (hk : k ≤ j) (ho : Snd X o wo) (ha : SndA X (e :: es) wr)
    (hst : starEach (e :: es) X.env = (false, eval e X.env) :: starEach es X.env := by rfl) (hpl : (backTo pos (starEach es X.env)).any (·.1) = false := by rfl)
    (ht : eval (.Call (.Attribute o m apos) (e :: es) [] pos) X.env = (do
      let ov ← eval o X.env
      standAt apos.atName
      let (f, first) ← holding [ov] (getMethod ov m pl)
      callWith pos f first (backTo pos (starEach (e :: es) X.env)) (backToKw pos (keywordEach [] X.env))) := by rfl) (hn : ps.length = n := by rfl) :
    Snd X (.Call (.Attribute o m apos) (e :: es) [] pos) (wMt C m n sp wo wr) := by subst hn; exact s_meth c hr hk ho ha hst hpl ht
theorem meth0 {n : Nat} {pl : Sem Bool} (c : Mt X.prog X.w X.K X.mg X.base k C m ps sp) (hr : Room j X.A) (hk : k ≤ j) (ho : Snd X o wo)
    (ht : eval (.Call (.Attribute o m apos) [] [] pos) X.env = (do
      let ov ← eval o X.env
      standAt apos.atName
      let (f, first) ← holding [ov] (getMethod ov m pl)
      callWith pos f first (backTo pos (starEach [] X.env)) (backToKw pos (keywordEach [] X.env))) := by rfl) (hn : ps.length = n := by rfl) :
    Snd X (.Call (.Attribute o m apos) [] [] pos) (wMt C m n sp wo wNil) := by subst hn; exact s_meth0 c hr hk ho ht
theorem fld (c : Fd X.K X.mg C f) (ho : Snd X o wo) (hb : attributeBase o f X.env (eval o X.env) = eval o X.env := by rfl) : Snd X (.Attribute o f pos) (wFl C f wo) := s_fld c ho hb
theorem gfl (c : Fd X.K X.mg C f) (ho : Snd X o wo) : SndG X (.Attribute o f pos') (gFl C f wo) := s_gfld c ho
theorem callK {n : Nat} {kws : List Keyword} (is : List Nat) (ks : List Str) (c : Cl X.prog X.w X.K X.mg X.base k st x ps sp) (hr : Room j X.A) (hk : k ≤ j) (ha : SndK X kws wr)
    (hbn : ∀ (kV doc pm : Value) (an : Option Addr) (cdv ct : Value) (ws : List Value), ws.length = ps.length → bindArgs (PySem.W.fnOf x x (defArgs st) (defBody st) (defScope st) .none kV doc pm an cdv ct) ⟨[], ks.zip ws⟩ = pure (ps.zip (permL is ws)))
    (hl : ks.length = ps.length := by rfl) (hg : Gl X x := by rfl) (hall : (backToKw pos (keywordEach kws X.env)).all (·.1.isSome) = true := by rfl) (hks : (backToKw pos (keywordEach kws X.env)).filterMap (·.1) = ks := by rfl)
    (hpl : ((backTo pos (starEach [] X.env)).any (·.1) || (backToKw pos (keywordEach kws X.env)).any (·.1.isNone)) = false := by rfl) (hdb : (x == ("__debug__" : Str)) = false := by rfl) (hn : ps.length = n := by rfl) :
    Snd X (.Call (.Name x p) [] kws pos) (wDefK n is sp wr) := by subst hn; exact s_callK c hr hk hg ha hl hbn hall hks hpl hdb
/-! targets -/
theorem gn (i : Nat) (hN : X.N.Nodup) (hi : X.N[i]? = some x := by rfl) (hx : Loc X.env.scope x := by first | exact Or.inl rfl | exact Or.inr rfl) (hf : X.fn x = true ∨ X.env.scope.names.lookup x = some .local := by first | exact Or.inl rfl | exact Or.inr rfl) : SndG X (.Name x pos) (gNm i) := s_gname hN hi hx hf
theorem gcons {g : WG} {gs : WGs} (h1 : SndG X e g) (h2 : SndGs X es gs) (hs : (assignEach (e :: es) X.env).map (·.2) = assign e X.env :: (assignEach es X.env).map (·.2) := by rfl) : SndGs X (e :: es) (gsCons g gs) := s_gscons h1 h2 hs
theorem gtup {k : Nat} (n : Nat) {gs : WGs} (h : SndGs X es gs) (hc : X.calm = true := by rfl) (hn : (assignEach es X.env).length = n := by rfl) (hst : (assignEach es X.env).findIdx? (·.1) = none := by rfl) : SndG X (.Tuple es k pos) (gTp n gs) := s_gtup hc h hn hst
theorem gix {i : Expr} {wi : W} (ho : Snd X o wo) (hi : Snd X i wi) (ha : ∀ v, assign (.Subscript o i pos) X.env v = (do
      let ov ← holding [v] (eval o X.env)
      let iv ← holding [v, ov] (eval i X.env)
      standAt pos
      holding [v, ov, iv] (setItem ov iv v)
      release [v, ov, iv] []) := by intro _; rfl) : SndG X (.Subscript o i pos) (gIx wo wi) := s_gix ho hi ha
/-- plain targets within comprehensions -/
theorem pn (i : Nat) (hN : X.N.Nodup) (hi : X.N[i]? = some x := by rfl) (hx : Loc X.env.scope x := by first | exact Or.inl rfl | exact Or.inr rfl) (hf : X.fn x = true ∨ X.env.scope.names.lookup x = some .local := by first | exact Or.inl rfl | exact Or.inr rfl) : PG X (.Name x pos) (gName i) := pg_name hN hi hx hf
theorem pnil : PGs X [] gNil := pgs_nil
theorem pcons {t : TG} {u : TGs} (h1 : PG X e t) (h2 : PGs X es u) (hs : (assignEach (e :: es) X.env).map (·.2) = assign e X.env :: (assignEach es X.env).map (·.2) := by rfl) : PGs X (e :: es) (gCons t u) := pgs_cons h1 h2 hs
theorem ptup {k : Nat} (n : Nat) {t : TGs} (h : PGs X es t) (hc : X.calm = true := by rfl) (hn : (assignEach es X.env).length = n := by rfl) (hst : (assignEach es X.env).findIdx? (·.1) = none := by rfl) : PG X (.Tuple es k pos) (gAnyT X.K n t) := pg_anyT hc h hn hst
theorem ts0 : PTs X [] (tT X wYes) := ⟨fun pins s σ H Q I ⟨μ, env, st, P, rs, re, p, f⟩ => pts_nil.run pins s σ H Q I (f true st H μ p .refl rs)⟩
theorem ts1 (h : SndT X c wt) : PTs X [c] (tT X wt) := pts_one h
/-! iterables -/
theorem rng1 (hm : X.mg "range" = none) (ha : SndA X [a] wr) (hg : Gl X "range" := by rfl) (hs : starEach [a] X.env = (false, eval a X.env) :: starEach [] X.env := by rfl) : SndI X tg (.Call (.Name "range" p) [a] [] pos) (wRange1 wr) := s_range1 hg hm ha hs
theorem rng2 (hm : X.mg "range" = none) (ha : SndA X [a, b] wr) (hg : Gl X "range" := by rfl) (hs : starEach [a, b] X.env = [(false, eval a X.env), (false, eval b X.env)] := by rfl) (hs2 : starEach [b] X.env = [(false, eval b X.env)] := by rfl) : SndI X tg (.Call (.Name "range" p) [a, b] [] pos) (wRange2 wr) := s_range2 hg hm ha hs hs2
theorem rng3 (hm : X.mg "range" = none) (ha : SndA X [a, b, c] wr) (hg : Gl X "range" := by rfl) (hs : starEach [a, b, c] X.env = (false, eval a X.env) :: starEach [b, c] X.env := by rfl) (hpl : (backTo pos (starEach [b, c] X.env)).any (·.1) = false := by rfl) : SndI X tg (.Call (.Name "range" p) [a, b, c] [] pos) (wRange3 wr) := s_range3 hg hm ha hs hpl
theorem zp {elts : List Expr} {kk : Nat} (hm : X.mg "zip" = none) (ha : SndA X [a, b] wr) (hg : Gl X "zip" := by rfl) (hs : starEach [a, b] X.env = (false, eval a X.env) :: starEach [b] X.env := by rfl) (hpl : (backTo pos (starEach [b] X.env)).any (·.1) = false := by rfl) :
    SndI X (.Tuple elts kk tpos) (.Call (.Name "zip" p) [a, b] [] pos) (wZip wr) := s_zip hg hm ha hs hpl
theorem enm {elts : List Expr} {kk : Nat} (hm : X.mg "enumerate" = none) (ha : SndA X [a] wr) (hg : Gl X "enumerate" := by rfl) (hs : starEach [a] X.env = (false, eval a X.env) :: starEach [] X.env := by rfl) :
    SndI X (.Tuple elts kk tpos) (.Call (.Name "enumerate" p) [a] [] pos) (wEnum wr) := s_enum hg hm ha hs
/-! statements -/
theorem set (i : Nat) (hN : X.N.Nodup) (he : Snd X e we) (hi : X.N[i]? = some x := by rfl) (hx : Loc X.env.scope x := by first | exact Or.inl rfl | exact Or.inr rfl) (hs : swapsWith e (some (.Name x p')) pos.line X.env = pure false := by rfl) (hf : X.fn x = true ∨ X.env.scope.names.lookup x = some .local := by first | exact Or.inl rfl | exact Or.inr rfl) :
    SndS X (.Assign [.Name x p'] e pos) (wAsg we (gNm i)) := s_set hN hi hx he hs hf
theorem asg {g : WG} (he : Snd X e we) (hg : SndG X tg g) (hs : swapsWithSole [tg] e pos.line X.env = pure false := by rfl) (hw : swappedStores [tg] e X.env = pure none := by rfl) (h1 : (assignEach [tg] X.env).map (·.2) = [assign tg X.env] := by rfl) :
    SndS X (.Assign [tg] e pos) (wAsg we g) := s_asg he hg hs hw h1
def parC (N : List Str) (names : List (Str × NameKind)) (qs : List (Str × Nat)) : Bool := qs.all fun p => decide (N[p.2]? = some p.1) && decide (names.lookup p.1 = some .local)
theorem par {ts : List Expr} (qs : List (Str × Nat)) {k k2 : Nat} {pt pt2 : Pos} (hN : X.N.Nodup) (ha : SndA X es wr) (hps : parC X.N X.env.scope.names qs = true := by kernel_rfl)
    (hc : X.calm = true := by rfl) (hw : swappedStores [.Tuple ts k pt] (.Tuple es k2 pt2) X.env = pure (some (qs.map (·.1))) := by rfl) (hs : swapsWithSole [.Tuple ts k pt] (.Tuple es k2 pt2) pos.line X.env = pure false := by rfl) (hz : qs.length ≤ sizeLine := by decide) :
    SndS X (.Assign [.Tuple ts k pt] (.Tuple es k2 pt2) pos) (wPar (qs.map (·.2)) wr) := s_par hc hN (fun p hp => by
    have := List.all_eq_true.mp hps p hp
    simpa only [Bool.and_eq_true, decide_eq_true_eq] using this) ha hw hs hz
theorem drp (he : Snd X e we) (hs : swapsWith e none pos.line X.env = pure false := by rfl) : SndS X (.Expr e pos) (wDrop we) := s_expr he hs
theorem forr {body : List Stmt} {wi : WI} {g : WG} {b : WS} (hi : SndI X tg iter wi) (hg : SndG X tg g) (hb : SndSs X body b) (hp : PassesOwn (model X.prog X.w) X.A X.env X.xe := by exact PassesOwn.never) (hc : X.calm = true := by rfl) (hs : ∀ x, foldedSetIterable iter X.env x = pure x := by intro _; rfl) :
    SndS X (.For tg iter body [] pos) (wFor wi g b) := s_for hp hc hi hg hb hs
theorem whl {body : List Stmt} {b : WS} (hc : SndT X c wt) (hb : SndSs X body b) (hp : PassesOwn (model X.prog X.w) X.A X.env X.xe := by exact PassesOwn.never) : SndS X (.While c body [] pos) (wWhile wt b) := s_while hp hc hb
/-! comprehensions -/
variable {scope : Scope} {wi : WI} {g : WG} {t : TG}
theorem lc (own : List (Str × Nat)) (hN : X.N.Nodup) (hi : SndI X tg iter wi) (hg : ∀ (s : Shared) (H : Hp) (C : Addr) (cl : List (Str × Addr)) (fp : List Addr), PG (X.blk s H scope (compEnvC scope cl C X.env) fp) tg t)
    (tk : TgOk X (own.map (·.2)) t g) (ht : ∀ (s : Shared) (H : Hp) (C : Addr) (cl : List (Str × Addr)) (fp : List Addr), PTs (X.blk s H scope (compEnvC scope cl C X.env) fp) ifs (tT X wt))
    (he : ∀ (s : Shared) (H : Hp) (C : Addr) (cl : List (Str × Addr)) (fp : List Addr), PE (X.blk s H scope (compEnvC scope cl C X.env) fp) elt (tD X we)) (ok : blkC X.N X.env.scope scope own = true := by kernel_rfl) (hc : X.calm = true := by rfl) (hs : ∀ x, foldedSetIterable iter X.env x = pure x := by intro _; rfl) :
    Snd X (.ListComp elt [⟨tg, iter, ifs, 0⟩] scope pos) (wLc (own.map (·.2)) wi g wt we) := s_lc hc hN hi (blkOk_by ok) hg tk ht he hs
theorem setLc (i : Nat) (own : List (Str × Nat)) {py spos : Pos} (hN : X.N.Nodup) (hi : SndI X tg iter wi) (hg : ∀ (s : Shared) (H : Hp) (C : Addr) (cl : List (Str × Addr)) (fp : List Addr), PG (X.blk s H scope (compEnvC scope cl C X.env) fp) tg t)
    (tk : TgOk X (own.map (·.2)) t g) (ht : ∀ (s : Shared) (H : Hp) (C : Addr) (cl : List (Str × Addr)) (fp : List Addr), PTs (X.blk s H scope (compEnvC scope cl C X.env) fp) ifs (tT X wt))
    (he : ∀ (s : Shared) (H : Hp) (C : Addr) (cl : List (Str × Addr)) (fp : List Addr), PE (X.blk s H scope (compEnvC scope cl C X.env) fp) elt (tD X we)) (hsw : swapsWith (.ListComp elt [⟨tg, iter, ifs, 0⟩] scope pos) (some (.Name y py)) spos.line X.env = pure true := by rfl)
    (hy : X.N[i]? = some y := by rfl) (hyl : X.env.scope.names.lookup y = some .local := by rfl) (ok : blkC X.N X.env.scope scope own = true := by kernel_rfl) (hc : X.calm = true := by rfl) (hs : ∀ x, foldedSetIterable iter X.env x = pure x := by intro _; rfl) :
    SndS X (.Assign [.Name y py] (.ListComp elt [⟨tg, iter, ifs, 0⟩] scope pos) spos) (wAsg (wLc (own.map (·.2)) wi g wt we) (gNm i)) := s_setLc hc hN hy hyl hsw hi (blkOk_by ok) hg tk ht he hs
variable {tg1 iter1 : Expr} {ifs1 : List Expr} {wi1 : WI} {g1 : WG} {t1 : TG} {wt1 : WT}
theorem lc2 (own : List (Str × Nat)) (vs1 : List Nat) (hN : X.N.Nodup) (hi : SndI X tg iter wi)
    (hg : ∀ (s : Shared) (H : Hp) (C : Addr) (cl : List (Str × Addr)) (fp : List Addr), PG (X.blk s H scope (compEnvC scope cl C X.env) fp) tg t) (tk : TgOk X (own.map (·.2)) t g)
    (ht : ∀ (s : Shared) (H : Hp) (C : Addr) (cl : List (Str × Addr)) (fp : List Addr), PTs (X.blk s H scope (compEnvC scope cl C X.env) fp) ifs (tT X wt))
    (hi1 : ∀ (s : Shared) (H : Hp) (C : Addr) (cl : List (Str × Addr)) (fp : List Addr), PI (X.blk s H scope (compEnvC scope cl C X.env) fp) tg1 iter1 (tI X wi1))
    (hg1 : ∀ (s : Shared) (H : Hp) (C : Addr) (cl : List (Str × Addr)) (fp : List Addr), PG (X.blk s H scope (compEnvC scope cl C X.env) fp) tg1 t1) (tk1 : TgOk X vs1 t1 g1)
    (ht1 : ∀ (s : Shared) (H : Hp) (C : Addr) (cl : List (Str × Addr)) (fp : List Addr), PTs (X.blk s H scope (compEnvC scope cl C X.env) fp) ifs1 (tT X wt1))
    (he : ∀ (s : Shared) (H : Hp) (C : Addr) (cl : List (Str × Addr)) (fp : List Addr), PE (X.blk s H scope (compEnvC scope cl C X.env) fp) elt (tD X we)) (hv : ∀ i ∈ vs1, i ∈ own.map (·.2) := by decide)
    (ok : blkC X.N X.env.scope scope own = true := by kernel_rfl) (hc : X.calm = true := by rfl) (hs : ∀ x, foldedSetIterable iter X.env x = pure x := by intro _; rfl) (hs1 : ∀ env x, foldedSetIterable iter1 env x = pure x := by intro _ _; rfl) :
    Snd X (.ListComp elt [⟨tg, iter, ifs, 0⟩, ⟨tg1, iter1, ifs1, 0⟩] scope pos) (wLc2 (own.map (·.2)) vs1 wi g wt wi1 g1 wt1 we) := s_lc2 hc hN hi (blkOk_by ok) hv hg tk ht hi1 hg1 tk1 ht1 he hs hs1
theorem setLc2 (i : Nat) (own : List (Str × Nat)) (vs1 : List Nat) {py spos : Pos} (hN : X.N.Nodup) (hi : SndI X tg iter wi)
    (hg : ∀ (s : Shared) (H : Hp) (C : Addr) (cl : List (Str × Addr)) (fp : List Addr), PG (X.blk s H scope (compEnvC scope cl C X.env) fp) tg t) (tk : TgOk X (own.map (·.2)) t g)
    (ht : ∀ (s : Shared) (H : Hp) (C : Addr) (cl : List (Str × Addr)) (fp : List Addr), PTs (X.blk s H scope (compEnvC scope cl C X.env) fp) ifs (tT X wt))
    (hi1 : ∀ (s : Shared) (H : Hp) (C : Addr) (cl : List (Str × Addr)) (fp : List Addr), PI (X.blk s H scope (compEnvC scope cl C X.env) fp) tg1 iter1 (tI X wi1))
    (hg1 : ∀ (s : Shared) (H : Hp) (C : Addr) (cl : List (Str × Addr)) (fp : List Addr), PG (X.blk s H scope (compEnvC scope cl C X.env) fp) tg1 t1) (tk1 : TgOk X vs1 t1 g1)
    (ht1 : ∀ (s : Shared) (H : Hp) (C : Addr) (cl : List (Str × Addr)) (fp : List Addr), PTs (X.blk s H scope (compEnvC scope cl C X.env) fp) ifs1 (tT X wt1))
    (he : ∀ (s : Shared) (H : Hp) (C : Addr) (cl : List (Str × Addr)) (fp : List Addr), PE (X.blk s H scope (compEnvC scope cl C X.env) fp) elt (tD X we)) (hsw : swapsWith (.ListComp elt [⟨tg, iter, ifs, 0⟩, ⟨tg1, iter1, ifs1, 0⟩] scope pos) (some (.Name y py)) spos.line X.env = pure true := by rfl)
    (hy : X.N[i]? = some y := by rfl) (hyl : X.env.scope.names.lookup y = some .local := by rfl) (hv : ∀ i ∈ vs1, i ∈ own.map (·.2) := by decide)
    (ok : blkC X.N X.env.scope scope own = true := by kernel_rfl) (hc : X.calm = true := by rfl) (hs : ∀ x, foldedSetIterable iter X.env x = pure x := by intro _; rfl) (hs1 : ∀ env x, foldedSetIterable iter1 env x = pure x := by intro _ _; rfl) :
    SndS X (.Assign [.Name y py] (.ListComp elt [⟨tg, iter, ifs, 0⟩, ⟨tg1, iter1, ifs1, 0⟩] scope pos) spos) (wAsg (wLc2 (own.map (·.2)) vs1 wi g wt wi1 g1 wt1 we) (gNm i)) := s_setLc2 hc hN hy hyl hsw hi (blkOk_by ok) hv hg tk ht hi1 hg1 tk1 ht1 he hs hs1
end
end DX

set_option Elab.async false
set_option linter.all false
set_option maxRecDepth 100000
set_option maxHeartbeats 4000000
/-! The walks of glueforms_k11_main_whole_worths_and_pair: printed by prn.py. -/
namespace K11
open PySem PySem.Spec PyProof.Rows L2 DX
def top (i : Nat) : Stmt := PySem.Challenge.pw_glueforms_k11_main_whole_worths_and_pair.main.body.getD i (.Pass ⟨0, 0, 0, 0⟩)
abbrev g_MOST_LETTERS : D := (.int 10)
abbrev g_MOST_SIZE : D := (.int 1024)
abbrev g_NOUGHT : D := (.tup [(.int 0), (.int 1)])
structure Nm (K : PySem.W.Frag) (mg : Str → Option Value) : Prop where
  g_MOST_LETTERS : GM K mg "MOST_LETTERS" g_MOST_LETTERS
  g_MOST_SIZE : GM K mg "MOST_SIZE" g_MOST_SIZE
  g_NOUGHT : GM K mg "NOUGHT" g_NOUGHT
  b_abs : mg "abs" = none
  b_all : mg "all" = none
  b_any : mg "any" = none
  b_bool : mg "bool" = none
  b_divmod : mg "divmod" = none
  b_enumerate : mg "enumerate" = none
  b_int : mg "int" = none
  b_isinstance : mg "isinstance" = none
  b_len : mg "len" = none
  b_max : mg "max" = none
  b_min : mg "min" = none
  b_range : mg "range" = none
  b_str : mg "str" = none
  b_sum : mg "sum" = none
  b_tuple : mg "tuple" = none
  b_zip : mg "zip" = none
  f_Reckoner_kind : Fd K mg "Reckoner" "kind"
  f_Reckoner_known : Fd K mg "Reckoner" "known"
  f_Reckoner_level : Fd K mg "Reckoner" "level"
  f_Reckoner_many : Fd K mg "Reckoner" "many"
  f_Reckoner_orders : Fd K mg "Reckoner" "orders"
  f_Reckoner_owns : Fd K mg "Reckoner" "owns"
  f_Reckoner_pairs : Fd K mg "Reckoner" "pairs"
abbrev st_is_whole : Stmt := top 7
abbrev ps_is_whole : List Str := ["value"]
abbrev N_is_whole : List Str := ["value"]
theorem sc_is_whole : FnScope N_is_whole ps_is_whole (defScope st_is_whole) := ⟨rfl, rfl, rfl, by decide +kernel, rfl, by decide +kernel, by decide +kernel⟩
abbrev st_is_from : Stmt := top 8
abbrev ps_is_from : List Str := ["value", "low"]
abbrev N_is_from : List Str := ["value", "low"]
theorem sc_is_from : FnScope N_is_from ps_is_from (defScope st_is_from) := ⟨rfl, rfl, rfl, by decide +kernel, rfl, by decide +kernel, by decide +kernel⟩
abbrev st_are_wholes : Stmt := top 9
abbrev ps_are_wholes : List Str := ["value", "many"]
abbrev N_are_wholes : List Str := ["value", "many", "each"]
theorem sc_are_wholes : FnScope N_are_wholes ps_are_wholes (defScope st_are_wholes) := ⟨rfl, rfl, rfl, by decide +kernel, rfl, by decide +kernel, by decide +kernel⟩
abbrev st_is_tuple_up_to : Stmt := top 10
abbrev ps_is_tuple_up_to : List Str := ["value", "least", "most"]
abbrev N_is_tuple_up_to : List Str := ["value", "least", "most"]
theorem sc_is_tuple_up_to : FnScope N_is_tuple_up_to ps_is_tuple_up_to (defScope st_is_tuple_up_to) := ⟨rfl, rfl, rfl, by decide +kernel, rfl, by decide +kernel, by decide +kernel⟩
abbrev st_common_divisor : Stmt := top 11
abbrev ps_common_divisor : List Str := ["one", "two"]
abbrev N_common_divisor : List Str := ["one", "two"]
theorem sc_common_divisor : FnScope N_common_divisor ps_common_divisor (defScope st_common_divisor) := ⟨rfl, rfl, rfl, by decide +kernel, rfl, by decide +kernel, by decide +kernel⟩
abbrev st_fraction : Stmt := top 12
abbrev ps_fraction : List Str := ["top", "under"]
abbrev N_fraction : List Str := ["top", "under", "by"]
theorem sc_fraction : FnScope N_fraction ps_fraction (defScope st_fraction) := ⟨rfl, rfl, rfl, by decide +kernel, rfl, by decide +kernel, by decide +kernel⟩
abbrev st_is_fraction : Stmt := top 13
abbrev ps_is_fraction : List Str := ["value"]
abbrev N_is_fraction : List Str := ["value"]
theorem sc_is_fraction : FnScope N_is_fraction ps_is_fraction (defScope st_is_fraction) := ⟨rfl, rfl, rfl, by decide +kernel, rfl, by decide +kernel, by decide +kernel⟩
abbrev st_is_worth : Stmt := top 14
abbrev ps_is_worth : List Str := ["value"]
abbrev N_is_worth : List Str := ["value"]
theorem sc_is_worth : FnScope N_is_worth ps_is_worth (defScope st_is_worth) := ⟨rfl, rfl, rfl, by decide +kernel, rfl, by decide +kernel, by decide +kernel⟩
abbrev st_product_of : Stmt := top 18
abbrev ps_product_of : List Str := ["numbers"]
abbrev N_product_of : List Str := ["numbers", "found", "number"]
theorem sc_product_of : FnScope N_product_of ps_product_of (defScope st_product_of) := ⟨rfl, rfl, rfl, by decide +kernel, rfl, by decide +kernel, by decide +kernel⟩
abbrev st_common_multiple : Stmt := top 19
abbrev ps_common_multiple : List Str := ["numbers"]
abbrev N_common_multiple : List Str := ["numbers", "found", "number"]
theorem sc_common_multiple : FnScope N_common_multiple ps_common_multiple (defScope st_common_multiple) := ⟨rfl, rfl, rfl, by decide +kernel, rfl, by decide +kernel, by decide +kernel⟩
abbrev st_are_worths : Stmt := top 20
abbrev ps_are_worths : List Str := ["orders", "value"]
abbrev N_are_worths : List Str := ["orders", "value", "at", "told", "each"]
theorem sc_are_worths : FnScope N_are_worths ps_are_worths (defScope st_are_worths) := ⟨rfl, rfl, rfl, by decide +kernel, rfl, by decide +kernel, by decide +kernel⟩
abbrev st_is_whole_times : Stmt := top 21
abbrev ps_is_whole_times : List Str := ["worth", "number"]
abbrev N_is_whole_times : List Str := ["worth", "number"]
theorem sc_is_whole_times : FnScope N_is_whole_times ps_is_whole_times (defScope st_is_whole_times) := ⟨rfl, rfl, rfl, by decide +kernel, rfl, by decide +kernel, by decide +kernel⟩
abbrev st_does_go_by_squares : Stmt := top 22
abbrev ps_does_go_by_squares : List Str := ["orders", "worths"]
abbrev N_does_go_by_squares : List Str := ["orders", "worths", "at", "told", "own", "order", "ahead"]
theorem sc_does_go_by_squares : FnScope N_does_go_by_squares ps_does_go_by_squares (defScope st_does_go_by_squares) := ⟨rfl, rfl, rfl, by decide +kernel, rfl, by decide +kernel, by decide +kernel⟩
abbrev st_is_kind_by : Stmt := top 23
abbrev ps_is_kind_by : List Str := ["value"]
abbrev N_is_kind_by : List Str := ["value", "orders", "worths", "order"]
theorem sc_is_kind_by : FnScope N_is_kind_by ps_is_kind_by (defScope st_is_kind_by) := ⟨rfl, rfl, rfl, by decide +kernel, rfl, by decide +kernel, by decide +kernel⟩
abbrev st_is_row_by : Stmt := top 24
abbrev ps_is_row_by : List Str := ["kind", "value"]
abbrev N_is_row_by : List Str := ["kind", "value"]
theorem sc_is_row_by : FnScope N_is_row_by ps_is_row_by (defScope st_is_row_by) := ⟨rfl, rfl, rfl, by decide +kernel, rfl, by decide +kernel, by decide +kernel⟩
abbrev st_size_by : Stmt := top 25
abbrev ps_size_by : List Str := ["kind"]
abbrev N_size_by : List Str := ["kind"]
theorem sc_size_by : FnScope N_size_by ps_size_by (defScope st_size_by) := ⟨rfl, rfl, rfl, by decide +kernel, rfl, by decide +kernel, by decide +kernel⟩
abbrev st_plain_by : Stmt := top 26
abbrev ps_plain_by : List Str := ["kind", "row"]
abbrev N_plain_by : List Str := ["kind", "row", "number", "order"]
theorem sc_plain_by : FnScope N_plain_by ps_plain_by (defScope st_plain_by) := ⟨rfl, rfl, rfl, by decide +kernel, rfl, by decide +kernel, by decide +kernel⟩
abbrev st_all_rows_by : Stmt := top 27
abbrev ps_all_rows_by : List Str := ["kind"]
abbrev N_all_rows_by : List Str := ["kind", "found", "order", "row", "number"]
theorem sc_all_rows_by : FnScope N_all_rows_by ps_all_rows_by (defScope st_all_rows_by) := ⟨rfl, rfl, rfl, by decide +kernel, rfl, by decide +kernel, by decide +kernel⟩
abbrev st_level_of : Stmt := top 28
abbrev ps_level_of : List Str := ["kind"]
abbrev N_level_of : List Str := ["kind", "told", "worth"]
theorem sc_level_of : FnScope N_level_of ps_level_of (defScope st_level_of) := ⟨rfl, rfl, rfl, by decide +kernel, rfl, by decide +kernel, by decide +kernel⟩
abbrev st_Reckoner___init__ : Stmt := inClass (top 29) 0
abbrev ps_Reckoner___init__ : List Str := ["self", "kind"]
abbrev N_Reckoner___init__ : List Str := ["self", "kind", "at", "told", "one", "two"]
theorem sc_Reckoner___init__ : FnScope N_Reckoner___init__ ps_Reckoner___init__ (defScope st_Reckoner___init__) := ⟨rfl, rfl, rfl, by decide +kernel, rfl, by decide +kernel, by decide +kernel⟩
abbrev st_Reckoner_shares : Stmt := inClass (top 29) 1
abbrev ps_Reckoner_shares : List Str := ["self", "worth"]
abbrev N_Reckoner_shares : List Str := ["self", "worth"]
theorem sc_Reckoner_shares : FnScope N_Reckoner_shares ps_Reckoner_shares (defScope st_Reckoner_shares) := ⟨rfl, rfl, rfl, by decide +kernel, rfl, by decide +kernel, by decide +kernel⟩
abbrev st_Reckoner_letter_pairing : Stmt := inClass (top 29) 2
abbrev ps_Reckoner_letter_pairing : List Str := ["self", "one", "two"]
abbrev N_Reckoner_letter_pairing : List Str := ["self", "one", "two"]
theorem sc_Reckoner_letter_pairing : FnScope N_Reckoner_letter_pairing ps_Reckoner_letter_pairing (defScope st_Reckoner_letter_pairing) := ⟨rfl, rfl, rfl, by decide +kernel, rfl, by decide +kernel, by decide +kernel⟩
abbrev st_Reckoner_order : Stmt := inClass (top 29) 5
abbrev ps_Reckoner_order : List Str := ["self", "row"]
abbrev N_Reckoner_order : List Str := ["self", "row", "order", "number"]
theorem sc_Reckoner_order : FnScope N_Reckoner_order ps_Reckoner_order (defScope st_Reckoner_order) := ⟨rfl, rfl, rfl, by decide +kernel, rfl, by decide +kernel, by decide +kernel⟩
abbrev st_Reckoner_worth : Stmt := inClass (top 29) 6
abbrev ps_Reckoner_worth : List Str := ["self", "row"]
abbrev N_Reckoner_worth : List Str := ["self", "row", "found", "at", "number", "across", "other", "there"]
theorem sc_Reckoner_worth : FnScope N_Reckoner_worth ps_Reckoner_worth (defScope st_Reckoner_worth) := ⟨rfl, rfl, rfl, by decide +kernel, rfl, by decide +kernel, by decide +kernel⟩
abbrev st_Reckoner_pairing : Stmt := inClass (top 29) 7
abbrev ps_Reckoner_pairing : List Str := ["self", "row", "other"]
abbrev N_Reckoner_pairing : List Str := ["self", "row", "other", "found", "number", "told", "each", "there"]
theorem sc_Reckoner_pairing : FnScope N_Reckoner_pairing ps_Reckoner_pairing (defScope st_Reckoner_pairing) := ⟨rfl, rfl, rfl, by decide +kernel, rfl, by decide +kernel, by decide +kernel⟩
abbrev st_Reckoner_told : Stmt := inClass (top 29) 8
abbrev ps_Reckoner_told : List Str := ["self", "shares"]
abbrev N_Reckoner_told : List Str := ["self", "shares"]
theorem sc_Reckoner_told : FnScope N_Reckoner_told ps_Reckoner_told (defScope st_Reckoner_told) := ⟨rfl, rfl, rfl, by decide +kernel, rfl, by decide +kernel, by decide +kernel⟩
abbrev st_worth_by : Stmt := top 30
abbrev ps_worth_by : List Str := ["kind", "row"]
abbrev N_worth_by : List Str := ["kind", "row", "reckoner"]
theorem sc_worth_by : FnScope N_worth_by ps_worth_by (defScope st_worth_by) := ⟨rfl, rfl, rfl, by decide +kernel, rfl, by decide +kernel, by decide +kernel⟩
abbrev st_pairing_by : Stmt := top 31
abbrev ps_pairing_by : List Str := ["kind", "row", "other"]
abbrev N_pairing_by : List Str := ["kind", "row", "other", "reckoner"]
theorem sc_pairing_by : FnScope N_pairing_by ps_pairing_by (defScope st_pairing_by) := ⟨rfl, rfl, rfl, by decide +kernel, rfl, by decide +kernel, by decide +kernel⟩
abbrev st_order_by : Stmt := top 32
abbrev ps_order_by : List Str := ["kind", "row"]
abbrev N_order_by : List Str := ["kind", "row"]
theorem sc_order_by : FnScope N_order_by ps_order_by (defScope st_order_by) := ⟨rfl, rfl, rfl, by decide +kernel, rfl, by decide +kernel, by decide +kernel⟩
abbrev st_check_kind : Stmt := top 34
abbrev ps_check_kind : List Str := ["kind"]
abbrev N_check_kind : List Str := ["kind"]
theorem sc_check_kind : FnScope N_check_kind ps_check_kind (defScope st_check_kind) := ⟨rfl, rfl, rfl, by decide +kernel, rfl, by decide +kernel, by decide +kernel⟩
abbrev st_check_row : Stmt := top 35
abbrev ps_check_row : List Str := ["kind", "row"]
abbrev N_check_row : List Str := ["kind", "row"]
theorem sc_check_row : FnScope N_check_row ps_check_row (defScope st_check_row) := ⟨rfl, rfl, rfl, by decide +kernel, rfl, by decide +kernel, by decide +kernel⟩
abbrev st_check_kind_and_row : Stmt := top 37
abbrev ps_check_kind_and_row : List Str := ["kind", "row"]
abbrev N_check_kind_and_row : List Str := ["kind", "row"]
theorem sc_check_kind_and_row : FnScope N_check_kind_and_row ps_check_kind_and_row (defScope st_check_kind_and_row) := ⟨rfl, rfl, rfl, by decide +kernel, rfl, by decide +kernel, by decide +kernel⟩
abbrev st_is_kind : Stmt := top 38
abbrev ps_is_kind : List Str := ["value"]
abbrev N_is_kind : List Str := ["value"]
theorem sc_is_kind : FnScope N_is_kind ps_is_kind (defScope st_is_kind) := ⟨rfl, rfl, rfl, by decide +kernel, rfl, by decide +kernel, by decide +kernel⟩
abbrev st_plain : Stmt := top 39
abbrev ps_plain : List Str := ["kind", "row"]
abbrev N_plain : List Str := ["kind", "row"]
theorem sc_plain : FnScope N_plain ps_plain (defScope st_plain) := ⟨rfl, rfl, rfl, by decide +kernel, rfl, by decide +kernel, by decide +kernel⟩
abbrev st_worth : Stmt := top 40
abbrev ps_worth : List Str := ["kind", "row"]
abbrev N_worth : List Str := ["kind", "row"]
theorem sc_worth : FnScope N_worth ps_worth (defScope st_worth) := ⟨rfl, rfl, rfl, by decide +kernel, rfl, by decide +kernel, by decide +kernel⟩
abbrev st_pairing : Stmt := top 41
abbrev ps_pairing : List Str := ["kind", "row", "other_row"]
abbrev N_pairing : List Str := ["kind", "row", "other_row"]
theorem sc_pairing : FnScope N_pairing ps_pairing (defScope st_pairing) := ⟨rfl, rfl, rfl, by decide +kernel, rfl, by decide +kernel, by decide +kernel⟩
abbrev st_order : Stmt := top 42
abbrev ps_order : List Str := ["kind", "row"]
abbrev N_order : List Str := ["kind", "row"]
theorem sc_order : FnScope N_order ps_order (defScope st_order) := ⟨rfl, rfl, rfl, by decide +kernel, rfl, by decide +kernel, by decide +kernel⟩
abbrev st_all_rows : Stmt := top 43
abbrev ps_all_rows : List Str := ["kind"]
abbrev N_all_rows : List Str := ["kind"]
theorem sc_all_rows : FnScope N_all_rows ps_all_rows (defScope st_all_rows) := ⟨rfl, rfl, rfl, by decide +kernel, rfl, by decide +kernel, by decide +kernel⟩
abbrev st_beside_by : Stmt := top 46
abbrev ps_beside_by : List Str := ["kind", "other"]
abbrev N_beside_by : List Str := ["kind", "other", "ahead", "told"]
theorem sc_beside_by : FnScope N_beside_by ps_beside_by (defScope st_beside_by) := ⟨rfl, rfl, rfl, by decide +kernel, rfl, by decide +kernel, by decide +kernel⟩
abbrev st_beside : Stmt := top 48
abbrev ps_beside : List Str := ["kind", "other"]
abbrev N_beside : List Str := ["kind", "other"]
theorem sc_beside : FnScope N_beside ps_beside (defScope st_beside) := ⟨rfl, rfl, rfl, by decide +kernel, rfl, by decide +kernel, by decide +kernel⟩
abbrev st__law_tide : Stmt := top 50
abbrev ps__law_tide : List Str := ["script", "lap"]
abbrev N__law_tide : List Str := ["script", "lap", "own", "moved", "place", "cell"]
theorem sc__law_tide : FnScope N__law_tide ps__law_tide (defScope st__law_tide) := ⟨rfl, rfl, rfl, by decide +kernel, rfl, by decide +kernel, by decide +kernel⟩
abbrev st__law_wave : Stmt := top 51
abbrev ps__law_wave : List Str := ["tide", "many"]
abbrev N__law_wave : List Str := ["tide", "many", "told"]
theorem sc__law_wave : FnScope N__law_wave ps__law_wave (defScope st__law_wave) := ⟨rfl, rfl, rfl, by decide +kernel, rfl, by decide +kernel, by decide +kernel⟩
abbrev st__law_one : Stmt := top 52
abbrev ps__law_one : List Str := ["tide", "things"]
abbrev N__law_one : List Str := ["tide", "things"]
theorem sc__law_one : FnScope N__law_one ps__law_one (defScope st__law_one) := ⟨rfl, rfl, rfl, by decide +kernel, rfl, by decide +kernel, by decide +kernel⟩
abbrev st__law_like : Stmt := top 53
abbrev ps__law_like : List Str := ["told", "due"]
abbrev N__law_like : List Str := ["told", "due", "one", "two"]
theorem sc__law_like : FnScope N__law_like ps__law_like (defScope st__law_like) := ⟨rfl, rfl, rfl, by decide +kernel, rfl, by decide +kernel, by decide +kernel⟩
abbrev st__law_common : Stmt := top 54
abbrev ps__law_common : List Str := ["one", "two"]
abbrev N__law_common : List Str := ["one", "two", "lap"]
theorem sc__law_common : FnScope N__law_common ps__law_common (defScope st__law_common) := ⟨rfl, rfl, rfl, by decide +kernel, rfl, by decide +kernel, by decide +kernel⟩
abbrev st__law_round_one : Stmt := top 55
abbrev ps__law_round_one : List Str := ["top", "low"]
abbrev N__law_round_one : List Str := ["top", "low", "rest", "common"]
theorem sc__law_round_one : FnScope N__law_round_one ps__law_round_one (defScope st__law_round_one) := ⟨rfl, rfl, rfl, by decide +kernel, rfl, by decide +kernel, by decide +kernel⟩
abbrev st__law_added : Stmt := top 56
abbrev ps__law_added : List Str := ["one", "two"]
abbrev N__law_added : List Str := ["one", "two"]
theorem sc__law_added : FnScope N__law_added ps__law_added (defScope st__law_added) := ⟨rfl, rfl, rfl, by decide +kernel, rfl, by decide +kernel, by decide +kernel⟩
abbrev st__law_times : Stmt := top 57
abbrev ps__law_times : List Str := ["one", "number"]
abbrev N__law_times : List Str := ["one", "number"]
theorem sc__law_times : FnScope N__law_times ps__law_times (defScope st__law_times) := ⟨rfl, rfl, rfl, by decide +kernel, rfl, by decide +kernel, by decide +kernel⟩
abbrev st__law_plain : Stmt := top 58
abbrev ps__law_plain : List Str := ["kind", "row"]
abbrev N__law_plain : List Str := ["kind", "row", "number", "order_of"]
theorem sc__law_plain : FnScope N__law_plain ps__law_plain (defScope st__law_plain) := ⟨rfl, rfl, rfl, by decide +kernel, rfl, by decide +kernel, by decide +kernel⟩
abbrev st__law_worth : Stmt := top 59
abbrev ps__law_worth : List Str := ["kind", "row"]
abbrev N__law_worth : List Str := ["kind", "row", "found", "at", "worths", "to", "part"]
theorem sc__law_worth : FnScope N__law_worth ps__law_worth (defScope st__law_worth) := ⟨rfl, rfl, rfl, by decide +kernel, rfl, by decide +kernel, by decide +kernel⟩
abbrev st__law_pairing : Stmt := top 60
abbrev ps__law_pairing : List Str := ["kind", "row", "other"]
abbrev N__law_pairing : List Str := ["kind", "row", "other", "both", "a", "b"]
theorem sc__law_pairing : FnScope N__law_pairing ps__law_pairing (defScope st__law_pairing) := ⟨rfl, rfl, rfl, by decide +kernel, rfl, by decide +kernel, by decide +kernel⟩
abbrev st__law_drawn_kind : Stmt := top 61
abbrev ps__law_drawn_kind : List Str := ["tide", "cap", "most"]
abbrev N__law_drawn_kind : List Str := ["tide", "cap", "most", "orders", "worths", "left", "lap", "order_of", "whole", "pairs", "other"]
theorem sc__law_drawn_kind : FnScope N__law_drawn_kind ps__law_drawn_kind (defScope st__law_drawn_kind) := ⟨rfl, rfl, rfl, by decide +kernel, rfl, by decide +kernel, by decide +kernel⟩
abbrev st__law_order : Stmt := top 62
abbrev ps__law_order : List Str := ["kind", "row"]
abbrev N__law_order : List Str := ["kind", "row", "found", "number", "order_of", "own"]
theorem sc__law_order : FnScope N__law_order ps__law_order (defScope st__law_order) := ⟨rfl, rfl, rfl, by decide +kernel, rfl, by decide +kernel, by decide +kernel⟩
abbrev st__law_drawn_row : Stmt := top 63
abbrev ps__law_drawn_row : List Str := ["tide", "kind"]
abbrev N__law_drawn_row : List Str := ["tide", "kind", "order_of"]
theorem sc__law_drawn_row : FnScope N__law_drawn_row ps__law_drawn_row (defScope st__law_drawn_row) := ⟨rfl, rfl, rfl, by decide +kernel, rfl, by decide +kernel, by decide +kernel⟩
abbrev st__law_put : Stmt := top 64
abbrev ps__law_put : List Str := ["kind", "one", "two", "by"]
abbrev N__law_put : List Str := ["kind", "one", "two", "by", "a", "b"]
theorem sc__law_put : FnScope N__law_put ps__law_put (defScope st__law_put) := ⟨rfl, rfl, rfl, by decide +kernel, rfl, by decide +kernel, by decide +kernel⟩
abbrev st__law_right : Stmt := top 65
abbrev ps__law_right : List Str := ["tide"]
abbrev N__law_right : List Str := ["tide", "lap", "kind", "great", "one", "two", "three", "row", "number", "order_of", "low", "told", "due", "by", "many", "both", "often", "less", "other", "wide", "k", "v", "six"]
theorem sc__law_right : FnScope N__law_right ps__law_right (defScope st__law_right) := ⟨rfl, rfl, rfl, by decide +kernel, rfl, by decide +kernel, by decide +kernel⟩
abbrev st_law : Stmt := top 66
abbrev ps_law : List Str := ["script"]
abbrev N_law : List Str := ["script", "lap"]
theorem sc_law : FnScope N_law ps_law (defScope st_law) := ⟨rfl, rfl, rfl, by decide +kernel, rfl, by decide +kernel, by decide +kernel⟩
/-! is_whole -/
def w_is_whole : WS :=
  (wRet (wAnd (wCall (on2 rIsiD) (wCons (wVar 0) (wCons (wC (.ty "int")) wNil))) (wNot (wCall (on2 rIsiD) (wCons (wVar 0) (wCons (wC (.ty "bool")) wNil))))))
theorem wk_is_whole {P : Program} {w : World} {K : PySem.W.Frag} {mg : Str → Option Value} {base : Heap} {k : Nat} {fa : Addr} (h : Nm K mg)
    (cdv : Value) (A : Around) (outer : List Env) (s : Shared) (H : Hp) (E : XK) (hr : Room (k + 1) (A.deeper (envOfC "is_whole" (defScope st_is_whole) s.heap.objs.size fa cdv))) :
    SndSs (Xf P w K mg base N_is_whole "is_whole" st_is_whole fa cdv A outer s H E) (defBody st_is_whole) (w_is_whole) := by
  have nd : N_is_whole.Nodup := sc_is_whole.nd
  exact (s_last (s_ret (s_and (blt cd_isi h.b_isinstance (cons (v 0) (cons (bty "int" h.b_int) s_nil))) (s_one (s_not (blt cd_isi h.b_isinstance (cons (v 0) (cons (bty "bool" h.b_bool) s_nil))))))))
/-! is_from -/
def w_is_from (sp_is_whole : DSp) : WS :=
  (wRet (wAnd (wDef 1 sp_is_whole (wCons (wVar 0) wNil)) (wBin rLe (wVar 1) (wVar 0))))
theorem wk_is_from {P : Program} {w : World} {K : PySem.W.Frag} {mg : Str → Option Value} {base : Heap} {k : Nat} {fa : Addr} {sp_is_whole : DSp} (h : Nm K mg) (c_is_whole : Cl P w K mg base k st_is_whole "is_whole" ps_is_whole sp_is_whole)
    (cdv : Value) (A : Around) (outer : List Env) (s : Shared) (H : Hp) (E : XK) (hr : Room (k + 1) (A.deeper (envOfC "is_from" (defScope st_is_from) s.heap.objs.size fa cdv))) :
    SndSs (Xf P w K mg base N_is_from "is_from" st_is_from fa cdv A outer s H E) (defBody st_is_from) (w_is_from sp_is_whole) := by
  have nd : N_is_from.Nodup := sc_is_from.nd
  exact (s_last (s_ret (s_and (call c_is_whole hr (Nat.le_succ _) (cons (v 0) s_nil)) (s_one (cmp opd_le (v 1) (v 0))))))
/-! are_wholes -/
def w_are_wholes (sp_is_whole : DSp) : WS :=
  (wRet (wAnd (wCall (on2 rIsiD) (wCons (wVar 0) (wCons (wC (.ty "tuple")) wNil))) (wAnd (wBin rEq (wCall (on1 rLen) (wCons (wVar 0) wNil)) (wVar 1)) (wCall (on1 (rAnyD fun bs => bs.all id)) (wCons (wLc [2] (wIter (wVar 0)) (gNm 2) wYes (wDef 1 sp_is_whole (wCons (wVar 2) wNil))) wNil)))))
theorem wk_are_wholes {P : Program} {w : World} {K : PySem.W.Frag} {mg : Str → Option Value} {base : Heap} {k : Nat} {fa : Addr} {sp_is_whole : DSp} (h : Nm K mg) (c_is_whole : Cl P w K mg base k st_is_whole "is_whole" ps_is_whole sp_is_whole)
    (cdv : Value) (A : Around) (outer : List Env) (s : Shared) (H : Hp) (E : XK) (hr : Room (k + 1) (A.deeper (envOfC "are_wholes" (defScope st_are_wholes) s.heap.objs.size fa cdv))) :
    SndSs (Xf P w K mg base N_are_wholes "are_wholes" st_are_wholes fa cdv A outer s H E) (defBody st_are_wholes) (w_are_wholes sp_is_whole) := by
  have nd : N_are_wholes.Nodup := sc_are_wholes.nd
  exact (s_last (s_ret (s_and (blt cd_isi h.b_isinstance (cons (v 0) (cons (bty "tuple" h.b_tuple) s_nil))) (s_and (cmp (opd_eq hr.units) (blt cd_len h.b_len (cons (v 0) s_nil)) (v 1)) (s_one (blt (cd_all rfl) h.b_all (cons (lc [("each", 2)] nd (s_iter (v 0)) (fun _ _ _ _ _ => (pn 2 nd)) (tg_name (by decide)) (fun _ _ _ _ _ => ts0) (fun _ _ _ _ _ => (call c_is_whole hr (Nat.le_succ _) (cons (v 2) s_nil)))) s_nil)))))))
/-! is_tuple_up_to -/
def w_is_tuple_up_to : WS :=
  (wRet (wAnd (wCall (on2 rIsiD) (wCons (wVar 0) (wCons (wC (.ty "tuple")) wNil))) (wChain rLe rLe (wVar 1) (wCall (on1 rLen) (wCons (wVar 0) wNil)) (wVar 2))))
theorem wk_is_tuple_up_to {P : Program} {w : World} {K : PySem.W.Frag} {mg : Str → Option Value} {base : Heap} {k : Nat} {fa : Addr} (h : Nm K mg)
    (cdv : Value) (A : Around) (outer : List Env) (s : Shared) (H : Hp) (E : XK) (hr : Room (k + 1) (A.deeper (envOfC "is_tuple_up_to" (defScope st_is_tuple_up_to) s.heap.objs.size fa cdv))) :
    SndSs (Xf P w K mg base N_is_tuple_up_to "is_tuple_up_to" st_is_tuple_up_to fa cdv A outer s H E) (defBody st_is_tuple_up_to) (w_is_tuple_up_to) := by
  have nd : N_is_tuple_up_to.Nodup := sc_is_tuple_up_to.nd
  exact (s_last (s_ret (s_and (blt cd_isi h.b_isinstance (cons (v 0) (cons (bty "tuple" h.b_tuple) s_nil))) (s_one (chn opd_le opd_le (v 1) (blt cd_len h.b_len (cons (v 0) s_nil)) (v 2))))))
/-! common_divisor -/
def w_common_divisor : WS :=
  (wSeq (wPar [0, 1] (wCons (wCall (on1 rAbs) (wCons (wVar 0) wNil)) (wCons (wCall (on1 rAbs) (wCons (wVar 1) wNil)) wNil)))
  (wSeq (wWhile (wTb (wBin rNe (wVar 1) (wC (.int 0)))) (wPar [0, 1] (wCons (wVar 1) (wCons (wBin rMod (wCall (on1 rInt) (wCons (wVar 0) wNil)) (wVar 1)) wNil))))
  (wRet (wVar 0))))
theorem wk_common_divisor {P : Program} {w : World} {K : PySem.W.Frag} {mg : Str → Option Value} {base : Heap} {k : Nat} {fa : Addr} (h : Nm K mg)
    (cdv : Value) (A : Around) (outer : List Env) (s : Shared) (H : Hp) (E : XK) (hr : Room (k + 1) (A.deeper (envOfC "common_divisor" (defScope st_common_divisor) s.heap.objs.size fa cdv))) :
    SndSs (Xf P w K mg base N_common_divisor "common_divisor" st_common_divisor fa cdv A outer s H E) (defBody st_common_divisor) (w_common_divisor) := by
  have nd : N_common_divisor.Nodup := sc_common_divisor.nd
  exact (s_seq (par [("one", 0), ("two", 1)] nd (cons (blt cd_abs h.b_abs (cons (v 0) s_nil)) (cons (blt cd_abs h.b_abs (cons (v 1) s_nil)) s_nil)))
  (s_seq (whl (cmpT (opd_ne hr.units) (v 1) s_int) (s_last (par [("one", 0), ("two", 1)] nd (cons (v 1) (cons (bop opd_mod (btc cd_int h.b_int (cons (v 0) s_nil)) (v 1)) s_nil)))))
  (s_last (s_ret (v 0)))))
/-! fraction -/
def w_fraction (sp_common_divisor : DSp) : WS :=
  (wSeq (wAsg (wIf (wTb (wBin rGt (wVar 1) (wC (.int 0)))) (wDef 2 sp_common_divisor (wCons (wVar 0) (wCons (wVar 1) wNil))) (wUn rNeg (wDef 2 sp_common_divisor (wCons (wVar 0) (wCons (wVar 1) wNil))))) (gNm 2))
  (wRet (wTup (wCons (wBin rFdiv (wVar 0) (wVar 2)) (wCons (wBin rFdiv (wVar 1) (wVar 2)) wNil)))))
theorem wk_fraction {P : Program} {w : World} {K : PySem.W.Frag} {mg : Str → Option Value} {base : Heap} {k : Nat} {fa : Addr} {sp_common_divisor : DSp} (h : Nm K mg) (c_common_divisor : Cl P w K mg base k st_common_divisor "common_divisor" ps_common_divisor sp_common_divisor)
    (cdv : Value) (A : Around) (outer : List Env) (s : Shared) (H : Hp) (E : XK) (hr : Room (k + 1) (A.deeper (envOfC "fraction" (defScope st_fraction) s.heap.objs.size fa cdv))) :
    SndSs (Xf P w K mg base N_fraction "fraction" st_fraction fa cdv A outer s H E) (defBody st_fraction) (w_fraction sp_common_divisor) := by
  have nd : N_fraction.Nodup := sc_fraction.nd
  exact (s_seq (set 2 nd (s_if (cmpT opd_gt (v 1) s_int) (call c_common_divisor hr (Nat.le_succ _) (cons (v 0) (cons (v 1) s_nil))) (s_un und_neg (call c_common_divisor hr (Nat.le_succ _) (cons (v 0) (cons (v 1) s_nil))))))
  (s_last (s_ret (s_tup (cons (bop opd_fdiv (v 0) (v 2)) (cons (bop opd_fdiv (v 1) (v 2)) s_nil))))))
/-! is_fraction -/
def w_is_fraction (sp_are_wholes sp_common_divisor : DSp) : WS :=
  (wSeq (wIfS (wOrT (wNotT (wTru (wDef 2 sp_are_wholes (wCons (wVar 0) (wCons (wC (.int 2)) wNil))))) (wTb (wBin rLt (wBin rIdx (wVar 0) (wC (.int 1))) (wC (.int 1))))) (wRet (wC (.bl false))) wNext)
  (wRet (wBin rEq (wDef 2 sp_common_divisor (wCons (wBin rIdx (wVar 0) (wC (.int 0))) (wCons (wBin rIdx (wVar 0) (wC (.int 1))) wNil))) (wC (.int 1)))))
theorem wk_is_fraction {P : Program} {w : World} {K : PySem.W.Frag} {mg : Str → Option Value} {base : Heap} {k : Nat} {fa : Addr} {sp_are_wholes sp_common_divisor : DSp} (h : Nm K mg) (c_are_wholes : Cl P w K mg base k st_are_wholes "are_wholes" ps_are_wholes sp_are_wholes) (c_common_divisor : Cl P w K mg base k st_common_divisor "common_divisor" ps_common_divisor sp_common_divisor)
    (cdv : Value) (A : Around) (outer : List Env) (s : Shared) (H : Hp) (E : XK) (hr : Room (k + 1) (A.deeper (envOfC "is_fraction" (defScope st_is_fraction) s.heap.objs.size fa cdv))) :
    SndSs (Xf P w K mg base N_is_fraction "is_fraction" st_is_fraction fa cdv A outer s H E) (defBody st_is_fraction) (w_is_fraction sp_are_wholes sp_common_divisor) := by
  have nd : N_is_fraction.Nodup := sc_is_fraction.nd
  exact (s_seq (s_ifS (ofW (s_orW (s_notT (tr (call c_are_wholes hr (Nat.le_succ _) (cons (v 0) (cons s_int s_nil))))) (orT1 (cmpT opd_lt (idx (v 0) s_int) s_int)))) (s_last (s_ret s_bl)) s_done)
  (s_last (s_ret (cmp (opd_eq hr.units) (call c_common_divisor hr (Nat.le_succ _) (cons (idx (v 0) s_int) (cons (idx (v 0) s_int) s_nil))) s_int))))
/-! is_worth -/
def w_is_worth (sp_is_fraction : DSp) : WS :=
  (wRet (wAnd (wDef 1 sp_is_fraction (wCons (wVar 0) wNil)) (wChain rLe rLt (wC (.int 0)) (wBin rIdx (wVar 0) (wC (.int 0))) (wBin rIdx (wVar 0) (wC (.int 1))))))
theorem wk_is_worth {P : Program} {w : World} {K : PySem.W.Frag} {mg : Str → Option Value} {base : Heap} {k : Nat} {fa : Addr} {sp_is_fraction : DSp} (h : Nm K mg) (c_is_fraction : Cl P w K mg base k st_is_fraction "is_fraction" ps_is_fraction sp_is_fraction)
    (cdv : Value) (A : Around) (outer : List Env) (s : Shared) (H : Hp) (E : XK) (hr : Room (k + 1) (A.deeper (envOfC "is_worth" (defScope st_is_worth) s.heap.objs.size fa cdv))) :
    SndSs (Xf P w K mg base N_is_worth "is_worth" st_is_worth fa cdv A outer s H E) (defBody st_is_worth) (w_is_worth sp_is_fraction) := by
  have nd : N_is_worth.Nodup := sc_is_worth.nd
  exact (s_last (s_ret (s_and (call c_is_fraction hr (Nat.le_succ _) (cons (v 0) s_nil)) (s_one (chn opd_le opd_lt s_int (idx (v 0) s_int) (idx (v 0) s_int))))))
/-! product_of -/
def w_product_of : WS :=
  (wSeq (wAsg (wC (.int 1)) (gNm 1))
  (wSeq (wFor (wIter (wVar 0)) (gNm 2) (wAsg (wBin rMul (wVar 1) (wVar 2)) (gNm 1)))
  (wRet (wVar 1))))
theorem wk_product_of {P : Program} {w : World} {K : PySem.W.Frag} {mg : Str → Option Value} {base : Heap} {k : Nat} {fa : Addr} (h : Nm K mg)
    (cdv : Value) (A : Around) (outer : List Env) (s : Shared) (H : Hp) (E : XK) (hr : Room (k + 1) (A.deeper (envOfC "product_of" (defScope st_product_of) s.heap.objs.size fa cdv))) :
    SndSs (Xf P w K mg base N_product_of "product_of" st_product_of fa cdv A outer s H E) (defBody st_product_of) (w_product_of) := by
  have nd : N_product_of.Nodup := sc_product_of.nd
  exact (s_seq (set 1 nd s_int)
  (s_seq (forr (s_iter (v 0)) (gn 2 nd) (s_last (set 1 nd (bop opd_mul (v 1) (v 2)))))
  (s_last (s_ret (v 1)))))
/-! common_multiple -/
def w_common_multiple (sp_common_divisor : DSp) : WS :=
  (wSeq (wAsg (wC (.int 1)) (gNm 1))
  (wSeq (wFor (wIter (wVar 0)) (gNm 2) (wAsg (wBin rFdiv (wBin rMul (wVar 1) (wVar 2)) (wDef 2 sp_common_divisor (wCons (wVar 1) (wCons (wVar 2) wNil)))) (gNm 1)))
  (wRet (wVar 1))))
theorem wk_common_multiple {P : Program} {w : World} {K : PySem.W.Frag} {mg : Str → Option Value} {base : Heap} {k : Nat} {fa : Addr} {sp_common_divisor : DSp} (h : Nm K mg) (c_common_divisor : Cl P w K mg base k st_common_divisor "common_divisor" ps_common_divisor sp_common_divisor)
    (cdv : Value) (A : Around) (outer : List Env) (s : Shared) (H : Hp) (E : XK) (hr : Room (k + 1) (A.deeper (envOfC "common_multiple" (defScope st_common_multiple) s.heap.objs.size fa cdv))) :
    SndSs (Xf P w K mg base N_common_multiple "common_multiple" st_common_multiple fa cdv A outer s H E) (defBody st_common_multiple) (w_common_multiple sp_common_divisor) := by
  have nd : N_common_multiple.Nodup := sc_common_multiple.nd
  exact (s_seq (set 1 nd s_int)
  (s_seq (forr (s_iter (v 0)) (gn 2 nd) (s_last (set 1 nd (bop opd_fdiv (bop opd_mul (v 1) (v 2)) (call c_common_divisor hr (Nat.le_succ _) (cons (v 1) (cons (v 2) s_nil)))))))
  (s_last (s_ret (v 1)))))
/-! are_worths -/
def w_are_worths (sp_is_tuple_up_to sp_is_worth : DSp) : WS :=
  (wSeq (wIfS (wNotT (wTru (wDef 3 sp_is_tuple_up_to (wCons (wVar 1) (wCons (wCall (on1 rLen) (wCons (wVar 0) wNil)) (wCons (wCall (on1 rLen) (wCons (wVar 0) wNil)) wNil)))))) (wRet (wC (.bl false))) wNext)
  (wSeq (wFor (wEnum (wCons (wVar 1) wNil)) (gTp 2 (gsCons (gNm 2) (gsCons (gNm 3) gsNil))) (wIfS (wOrT (wNotT (wTru (wDef 3 sp_is_tuple_up_to (wCons (wVar 3) (wCons (wBin rAdd (wVar 2) (wC (.int 1))) (wCons (wBin rAdd (wVar 2) (wC (.int 1))) wNil)))))) (wNotT (wTru (wCall (on1 (rAnyD fun bs => bs.all id)) (wCons (wLc [4] (wIter (wVar 3)) (gNm 4) wYes (wDef 1 sp_is_worth (wCons (wVar 4) wNil))) wNil))))) (wRet (wC (.bl false))) wNext))
  (wRet (wC (.bl true)))))
theorem wk_are_worths {P : Program} {w : World} {K : PySem.W.Frag} {mg : Str → Option Value} {base : Heap} {k : Nat} {fa : Addr} {sp_is_tuple_up_to sp_is_worth : DSp} (h : Nm K mg) (c_is_tuple_up_to : Cl P w K mg base k st_is_tuple_up_to "is_tuple_up_to" ps_is_tuple_up_to sp_is_tuple_up_to) (c_is_worth : Cl P w K mg base k st_is_worth "is_worth" ps_is_worth sp_is_worth)
    (cdv : Value) (A : Around) (outer : List Env) (s : Shared) (H : Hp) (E : XK) (hr : Room (k + 1) (A.deeper (envOfC "are_worths" (defScope st_are_worths) s.heap.objs.size fa cdv))) :
    SndSs (Xf P w K mg base N_are_worths "are_worths" st_are_worths fa cdv A outer s H E) (defBody st_are_worths) (w_are_worths sp_is_tuple_up_to sp_is_worth) := by
  have nd : N_are_worths.Nodup := sc_are_worths.nd
  exact (s_seq (s_ifS (s_notT (tr (call c_is_tuple_up_to hr (Nat.le_succ _) (cons (v 1) (cons (blt cd_len h.b_len (cons (v 0) s_nil)) (cons (blt cd_len h.b_len (cons (v 0) s_nil)) s_nil)))))) (s_last (s_ret s_bl)) s_done)
  (s_seq (forr (enm h.b_enumerate (cons (v 1) s_nil)) (gtup 2 (gcons (gn 2 nd) (gcons (gn 3 nd) s_gsnil))) (s_last (s_ifS (ofW (s_orW (s_notT (tr (call c_is_tuple_up_to hr (Nat.le_succ _) (cons (v 3) (cons (bop opd_add (v 2) s_int) (cons (bop opd_add (v 2) s_int) s_nil)))))) (orT1 (s_notT (tr (blt (cd_all rfl) h.b_all (cons (lc [("each", 4)] nd (s_iter (v 3)) (fun _ _ _ _ _ => (pn 4 nd)) (tg_name (by decide)) (fun _ _ _ _ _ => ts0) (fun _ _ _ _ _ => (call c_is_worth hr (Nat.le_succ _) (cons (v 4) s_nil)))) s_nil))))))) (s_last (s_ret s_bl)) s_done)))
  (s_last (s_ret s_bl))))
/-! is_whole_times -/
def w_is_whole_times : WS :=
  (wRet (wBin rEq (wBin rMod (wCall (on1 rInt) (wCons (wBin rMul (wBin rIdx (wVar 0) (wC (.int 0))) (wVar 1)) wNil)) (wBin rIdx (wVar 0) (wC (.int 1)))) (wC (.int 0))))
theorem wk_is_whole_times {P : Program} {w : World} {K : PySem.W.Frag} {mg : Str → Option Value} {base : Heap} {k : Nat} {fa : Addr} (h : Nm K mg)
    (cdv : Value) (A : Around) (outer : List Env) (s : Shared) (H : Hp) (E : XK) (hr : Room (k + 1) (A.deeper (envOfC "is_whole_times" (defScope st_is_whole_times) s.heap.objs.size fa cdv))) :
    SndSs (Xf P w K mg base N_is_whole_times "is_whole_times" st_is_whole_times fa cdv A outer s H E) (defBody st_is_whole_times) (w_is_whole_times) := by
  have nd : N_is_whole_times.Nodup := sc_is_whole_times.nd
  exact (s_last (s_ret (cmp (opd_eq hr.units) (bop opd_mod (btc cd_int h.b_int (cons (bop opd_mul (idx (v 0) s_int) (v 1)) s_nil)) (idx (v 0) s_int)) s_int)))
/-! does_go_by_squares -/
def w_does_go_by_squares (sp_is_whole_times : DSp) : WS :=
  (wSeq (wFor (wEnum (wCons (wVar 1) wNil)) (gTp 2 (gsCons (gNm 2) (gsCons (gNm 3) gsNil))) (wSeq (wPar [4, 5] (wCons (wBin rIdx (wVar 3) (wVar 2)) (wCons (wBin rIdx (wVar 0) (wVar 2)) wNil)))
  (wSeq (wIfS (wOrT (wNotT (wTru (wDef 2 sp_is_whole_times (wCons (wVar 4) (wCons (wBin rMul (wVar 5) (wVar 5)) wNil))))) (wNotT (wTru (wDef 2 sp_is_whole_times (wCons (wVar 4) (wCons (wBin rMul (wC (.int 2)) (wVar 5)) wNil)))))) (wRet (wC (.bl false))) wNext)
  (wFor (wRange1 (wCons (wVar 2) wNil)) (gNm 6) (wIfS (wOrT (wNotT (wTru (wDef 2 sp_is_whole_times (wCons (wBin rIdx (wVar 3) (wVar 6)) (wCons (wVar 5) wNil))))) (wNotT (wTru (wDef 2 sp_is_whole_times (wCons (wBin rIdx (wVar 3) (wVar 6)) (wCons (wBin rIdx (wVar 0) (wVar 6)) wNil)))))) (wRet (wC (.bl false))) wNext)))))
  (wRet (wC (.bl true))))
theorem wk_does_go_by_squares {P : Program} {w : World} {K : PySem.W.Frag} {mg : Str → Option Value} {base : Heap} {k : Nat} {fa : Addr} {sp_is_whole_times : DSp} (h : Nm K mg) (c_is_whole_times : Cl P w K mg base k st_is_whole_times "is_whole_times" ps_is_whole_times sp_is_whole_times)
    (cdv : Value) (A : Around) (outer : List Env) (s : Shared) (H : Hp) (E : XK) (hr : Room (k + 1) (A.deeper (envOfC "does_go_by_squares" (defScope st_does_go_by_squares) s.heap.objs.size fa cdv))) :
    SndSs (Xf P w K mg base N_does_go_by_squares "does_go_by_squares" st_does_go_by_squares fa cdv A outer s H E) (defBody st_does_go_by_squares) (w_does_go_by_squares sp_is_whole_times) := by
  have nd : N_does_go_by_squares.Nodup := sc_does_go_by_squares.nd
  exact (s_seq (forr (enm h.b_enumerate (cons (v 1) s_nil)) (gtup 2 (gcons (gn 2 nd) (gcons (gn 3 nd) s_gsnil))) (s_seq (par [("own", 4), ("order", 5)] nd (cons (idx (v 3) (v 2)) (cons (idx (v 0) (v 2)) s_nil)))
  (s_seq (s_ifS (ofW (s_orW (s_notT (tr (call c_is_whole_times hr (Nat.le_succ _) (cons (v 4) (cons (bop opd_mul (v 5) (v 5)) s_nil))))) (orT1 (s_notT (tr (call c_is_whole_times hr (Nat.le_succ _) (cons (v 4) (cons (bop opd_mul s_int (v 5)) s_nil)))))))) (s_last (s_ret s_bl)) s_done)
  (s_last (forr (rng1 h.b_range (cons (v 2) s_nil)) (gn 6 nd) (s_last (s_ifS (ofW (s_orW (s_notT (tr (call c_is_whole_times hr (Nat.le_succ _) (cons (idx (v 3) (v 6)) (cons (v 5) s_nil))))) (orT1 (s_notT (tr (call c_is_whole_times hr (Nat.le_succ _) (cons (idx (v 3) (v 6)) (cons (idx (v 0) (v 6)) s_nil)))))))) (s_last (s_ret s_bl)) s_done)))))))
  (s_last (s_ret s_bl)))
/-! is_kind_by -/
def w_is_kind_by (sp_is_tuple_up_to sp_is_from sp_product_of sp_are_worths sp_does_go_by_squares : DSp) : WS :=
  (wSeq (wIfS (wOrT (wNotT (wTru (wDef 3 sp_is_tuple_up_to (wCons (wVar 0) (wCons (wC (.int 2)) (wCons (wC (.int 2)) wNil)))))) (wNotT (wTru (wDef 3 sp_is_tuple_up_to (wCons (wBin rIdx (wVar 0) (wC (.int 0))) (wCons (wC (.int 0)) (wCons (wC g_MOST_LETTERS) wNil))))))) (wRet (wC (.bl false))) wNext)
  (wSeq (wAsg (wVar 0) (gTp 2 (gsCons (gNm 1) (gsCons (gNm 2) gsNil))))
  (wSeq (wIfS (wOrT (wNotT (wTru (wCall (on1 (rAnyD fun bs => bs.all id)) (wCons (wLc [3] (wIter (wVar 1)) (gNm 3) wYes (wDef 2 sp_is_from (wCons (wVar 3) (wCons (wC (.int 2)) wNil)))) wNil)))) (wTb (wBin rGt (wDef 1 sp_product_of (wCons (wVar 1) wNil)) (wC g_MOST_SIZE)))) (wRet (wC (.bl false))) wNext)
  (wRet (wAnd (wDef 2 sp_are_worths (wCons (wVar 1) (wCons (wVar 2) wNil))) (wDef 2 sp_does_go_by_squares (wCons (wVar 1) (wCons (wVar 2) wNil))))))))
theorem wk_is_kind_by {P : Program} {w : World} {K : PySem.W.Frag} {mg : Str → Option Value} {base : Heap} {k : Nat} {fa : Addr} {sp_is_tuple_up_to sp_is_from sp_product_of sp_are_worths sp_does_go_by_squares : DSp} (h : Nm K mg) (c_is_tuple_up_to : Cl P w K mg base k st_is_tuple_up_to "is_tuple_up_to" ps_is_tuple_up_to sp_is_tuple_up_to) (c_is_from : Cl P w K mg base k st_is_from "is_from" ps_is_from sp_is_from) (c_product_of : Cl P w K mg base k st_product_of "product_of" ps_product_of sp_product_of) (c_are_worths : Cl P w K mg base k st_are_worths "are_worths" ps_are_worths sp_are_worths) (c_does_go_by_squares : Cl P w K mg base k st_does_go_by_squares "does_go_by_squares" ps_does_go_by_squares sp_does_go_by_squares)
    (cdv : Value) (A : Around) (outer : List Env) (s : Shared) (H : Hp) (E : XK) (hr : Room (k + 1) (A.deeper (envOfC "is_kind_by" (defScope st_is_kind_by) s.heap.objs.size fa cdv))) :
    SndSs (Xf P w K mg base N_is_kind_by "is_kind_by" st_is_kind_by fa cdv A outer s H E) (defBody st_is_kind_by) (w_is_kind_by sp_is_tuple_up_to sp_is_from sp_product_of sp_are_worths sp_does_go_by_squares) := by
  have nd : N_is_kind_by.Nodup := sc_is_kind_by.nd
  exact (s_seq (s_ifS (ofW (s_orW (s_notT (tr (call c_is_tuple_up_to hr (Nat.le_succ _) (cons (v 0) (cons s_int (cons s_int s_nil)))))) (orT1 (s_notT (tr (call c_is_tuple_up_to hr (Nat.le_succ _) (cons (idx (v 0) s_int) (cons s_int (cons (gl h.g_MOST_LETTERS) s_nil))))))))) (s_last (s_ret s_bl)) s_done)
  (s_seq (asg (v 0) (gtup 2 (gcons (gn 1 nd) (gcons (gn 2 nd) s_gsnil))))
  (s_seq (s_ifS (ofW (s_orW (s_notT (tr (blt (cd_all rfl) h.b_all (cons (lc [("order", 3)] nd (s_iter (v 1)) (fun _ _ _ _ _ => (pn 3 nd)) (tg_name (by decide)) (fun _ _ _ _ _ => ts0) (fun _ _ _ _ _ => (call c_is_from hr (Nat.le_succ _) (cons (v 3) (cons s_int s_nil))))) s_nil)))) (orT1 (cmpT opd_gt (call c_product_of hr (Nat.le_succ _) (cons (v 1) s_nil)) (gl h.g_MOST_SIZE))))) (s_last (s_ret s_bl)) s_done)
  (s_last (s_ret (s_and (call c_are_worths hr (Nat.le_succ _) (cons (v 1) (cons (v 2) s_nil))) (s_one (call c_does_go_by_squares hr (Nat.le_succ _) (cons (v 1) (cons (v 2) s_nil))))))))))
/-! is_row_by -/
def w_is_row_by (sp_are_wholes : DSp) : WS :=
  (wRet (wDef 2 sp_are_wholes (wCons (wVar 1) (wCons (wCall (on1 rLen) (wCons (wBin rIdx (wVar 0) (wC (.int 0))) wNil)) wNil))))
theorem wk_is_row_by {P : Program} {w : World} {K : PySem.W.Frag} {mg : Str → Option Value} {base : Heap} {k : Nat} {fa : Addr} {sp_are_wholes : DSp} (h : Nm K mg) (c_are_wholes : Cl P w K mg base k st_are_wholes "are_wholes" ps_are_wholes sp_are_wholes)
    (cdv : Value) (A : Around) (outer : List Env) (s : Shared) (H : Hp) (E : XK) (hr : Room (k + 1) (A.deeper (envOfC "is_row_by" (defScope st_is_row_by) s.heap.objs.size fa cdv))) :
    SndSs (Xf P w K mg base N_is_row_by "is_row_by" st_is_row_by fa cdv A outer s H E) (defBody st_is_row_by) (w_is_row_by sp_are_wholes) := by
  have nd : N_is_row_by.Nodup := sc_is_row_by.nd
  exact (s_last (s_ret (call c_are_wholes hr (Nat.le_succ _) (cons (v 1) (cons (blt cd_len h.b_len (cons (idx (v 0) s_int) s_nil)) s_nil)))))
/-! size_by -/
def w_size_by (sp_product_of : DSp) : WS :=
  (wRet (wDef 1 sp_product_of (wCons (wBin rIdx (wVar 0) (wC (.int 0))) wNil)))
theorem wk_size_by {P : Program} {w : World} {K : PySem.W.Frag} {mg : Str → Option Value} {base : Heap} {k : Nat} {fa : Addr} {sp_product_of : DSp} (h : Nm K mg) (c_product_of : Cl P w K mg base k st_product_of "product_of" ps_product_of sp_product_of)
    (cdv : Value) (A : Around) (outer : List Env) (s : Shared) (H : Hp) (E : XK) (hr : Room (k + 1) (A.deeper (envOfC "size_by" (defScope st_size_by) s.heap.objs.size fa cdv))) :
    SndSs (Xf P w K mg base N_size_by "size_by" st_size_by fa cdv A outer s H E) (defBody st_size_by) (w_size_by sp_product_of) := by
  have nd : N_size_by.Nodup := sc_size_by.nd
  exact (s_last (s_ret (call c_product_of hr (Nat.le_succ _) (cons (idx (v 0) s_int) s_nil))))
/-! plain_by -/
def w_plain_by : WS :=
  (wRet (wCall (on1 rTupleOf) (wCons (wLc [2, 3] (wZip (wCons (wVar 1) (wCons (wBin rIdx (wVar 0) (wC (.int 0))) wNil))) (gTp 2 (gsCons (gNm 2) (gsCons (gNm 3) gsNil))) wYes (wBin rMod (wCall (on1 rInt) (wCons (wVar 2) wNil)) (wVar 3))) wNil)))
theorem wk_plain_by {P : Program} {w : World} {K : PySem.W.Frag} {mg : Str → Option Value} {base : Heap} {k : Nat} {fa : Addr} (h : Nm K mg)
    (cdv : Value) (A : Around) (outer : List Env) (s : Shared) (H : Hp) (E : XK) (hr : Room (k + 1) (A.deeper (envOfC "plain_by" (defScope st_plain_by) s.heap.objs.size fa cdv))) :
    SndSs (Xf P w K mg base N_plain_by "plain_by" st_plain_by fa cdv A outer s H E) (defBody st_plain_by) (w_plain_by) := by
  have nd : N_plain_by.Nodup := sc_plain_by.nd
  exact (s_last (s_ret (btc cd_tuple h.b_tuple (cons (lc [("number", 2), ("order", 3)] nd (zp h.b_zip (cons (v 1) (cons (idx (v 0) s_int) s_nil))) (fun _ _ _ _ _ => (ptup 2 (pcons (pn 2 nd) (pcons (pn 3 nd) pnil)))) (tg_tup (tgs_cons (tg_name (by decide)) (tgs_cons (tg_name (by decide)) tgs_nil))) (fun _ _ _ _ _ => ts0) (fun _ _ _ _ _ => (bop opd_mod (btc cd_int h.b_int (cons (v 2) s_nil)) (v 3)))) s_nil))))
/-! all_rows_by -/
def w_all_rows_by : WS :=
  (wSeq (wAsg (wLst (wCons (wTup wNil) wNil)) (gNm 1))
  (wSeq (wFor (wIter (wBin rIdx (wVar 0) (wC (.int 0)))) (gNm 2) (wAsg (wLc2 [3, 4] [4] (wIter (wVar 1)) (gNm 3) wYes (wRange1 (wCons (wVar 2) wNil)) (gNm 4) wYes (wTup (wStar (wVar 3) (wCons (wVar 4) wNil)))) (gNm 1)))
  (wRet (wVar 1))))
theorem wk_all_rows_by {P : Program} {w : World} {K : PySem.W.Frag} {mg : Str → Option Value} {base : Heap} {k : Nat} {fa : Addr} (h : Nm K mg)
    (cdv : Value) (A : Around) (outer : List Env) (s : Shared) (H : Hp) (E : XK) (hr : Room (k + 1) (A.deeper (envOfC "all_rows_by" (defScope st_all_rows_by) s.heap.objs.size fa cdv))) :
    SndSs (Xf P w K mg base N_all_rows_by "all_rows_by" st_all_rows_by fa cdv A outer s H E) (defBody st_all_rows_by) (w_all_rows_by) := by
  have nd : N_all_rows_by.Nodup := sc_all_rows_by.nd
  exact (s_seq (set 1 nd (s_lst (cons (s_tup s_nil) s_nil)))
  (s_seq (forr (s_iter (idx (v 0) s_int)) (gn 2 nd) (s_last (setLc2 1 [("row", 3), ("number", 4)] [4] nd (s_iter (v 1)) (fun _ _ _ _ _ => (pn 3 nd)) (tg_name (by decide)) (fun _ _ _ _ _ => ts0) (fun _ _ _ _ _ => (rng1 h.b_range (cons (v 2) s_nil))) (fun _ _ _ _ _ => (pn 4 nd)) (tg_name (by decide)) (fun _ _ _ _ _ => ts0) (fun _ _ _ _ _ => (s_tup (star (v 3) (cons (v 4) s_nil)))))))
  (s_last (s_ret (v 1)))))
/-! level_of -/
def w_level_of (sp_common_multiple : DSp) : WS :=
  (wRet (wDef 1 sp_common_multiple (wCons (wLc2 [1, 2] [2] (wIter (wBin rIdx (wVar 0) (wC (.int 1)))) (gNm 1) wYes (wIter (wVar 1)) (gNm 2) wYes (wBin rIdx (wVar 2) (wC (.int 1)))) wNil)))
theorem wk_level_of {P : Program} {w : World} {K : PySem.W.Frag} {mg : Str → Option Value} {base : Heap} {k : Nat} {fa : Addr} {sp_common_multiple : DSp} (h : Nm K mg) (c_common_multiple : Cl P w K mg base k st_common_multiple "common_multiple" ps_common_multiple sp_common_multiple)
    (cdv : Value) (A : Around) (outer : List Env) (s : Shared) (H : Hp) (E : XK) (hr : Room (k + 1) (A.deeper (envOfC "level_of" (defScope st_level_of) s.heap.objs.size fa cdv))) :
    SndSs (Xf P w K mg base N_level_of "level_of" st_level_of fa cdv A outer s H E) (defBody st_level_of) (w_level_of sp_common_multiple) := by
  have nd : N_level_of.Nodup := sc_level_of.nd
  exact (s_last (s_ret (call c_common_multiple hr (Nat.le_succ _) (cons (lc2 [("told", 1), ("worth", 2)] [2] nd (s_iter (idx (v 0) s_int)) (fun _ _ _ _ _ => (pn 1 nd)) (tg_name (by decide)) (fun _ _ _ _ _ => ts0) (fun _ _ _ _ _ => (s_iter (v 1))) (fun _ _ _ _ _ => (pn 2 nd)) (tg_name (by decide)) (fun _ _ _ _ _ => ts0) (fun _ _ _ _ _ => (idx (v 2) s_int))) s_nil))))
/-! Reckoner___init__ -/
def w_Reckoner___init__ (sp_level_of sp_Reckoner_shares sp_Reckoner_letter_pairing : DSp) : WS :=
  (wSeq (wAsg (wTup (wCons (wVar 1) (wCons (wBin rIdx (wVar 1) (wC (.int 0))) wNil))) (gTp 2 (gsCons (gFl "Reckoner" "kind" (wVar 0)) (gsCons (gFl "Reckoner" "orders" (wVar 0)) gsNil))))
  (wSeq (wAsg (wCall (on1 rLen) (wCons (wBin rIdx (wVar 1) (wC (.int 0))) wNil)) (gFl "Reckoner" "many" (wVar 0)))
  (wSeq (wAsg (wDef 1 sp_level_of (wCons (wVar 1) wNil)) (gFl "Reckoner" "level" (wVar 0)))
  (wSeq (wAsg (wLc [2, 3] (wEnum (wCons (wBin rIdx (wVar 1) (wC (.int 1))) wNil)) (gTp 2 (gsCons (gNm 2) (gsCons (gNm 3) gsNil))) wYes (wMt "Reckoner" "shares" 2 sp_Reckoner_shares (wVar 0) (wCons (wBin rIdx (wVar 3) (wVar 2)) wNil))) (gFl "Reckoner" "owns" (wVar 0)))
  (wSeq (wAsg (wLc [4] (wRange1 (wCons (wFl "Reckoner" "many" (wVar 0)) wNil)) (gNm 4) wYes (wLc [5] (wRange1 (wCons (wFl "Reckoner" "many" (wVar 0)) wNil)) (gNm 5) wYes (wMt "Reckoner" "letter_pairing" 3 sp_Reckoner_letter_pairing (wVar 0) (wCons (wVar 4) (wCons (wVar 5) wNil))))) (gFl "Reckoner" "pairs" (wVar 0)))
  (wAsg wDic0 (gFl "Reckoner" "known" (wVar 0))))))))
theorem wk_Reckoner___init__ {P : Program} {w : World} {K : PySem.W.Frag} {mg : Str → Option Value} {base : Heap} {k : Nat} {fa : Addr} {sp_level_of sp_Reckoner_shares sp_Reckoner_letter_pairing : DSp} (h : Nm K mg) (c_level_of : Cl P w K mg base k st_level_of "level_of" ps_level_of sp_level_of) (m_Reckoner_shares : Mt P w K mg base k "Reckoner" "shares" ps_Reckoner_shares sp_Reckoner_shares) (m_Reckoner_letter_pairing : Mt P w K mg base k "Reckoner" "letter_pairing" ps_Reckoner_letter_pairing sp_Reckoner_letter_pairing)
    (cdv : Value) (A : Around) (outer : List Env) (s : Shared) (H : Hp) (E : XK) (hr : Room (k + 1) (A.deeper (envOfC "Reckoner.__init__" (defScope st_Reckoner___init__) s.heap.objs.size fa cdv))) :
    SndSs (Xf P w K mg base N_Reckoner___init__ "Reckoner.__init__" st_Reckoner___init__ fa cdv A outer s H E) (defBody st_Reckoner___init__) (w_Reckoner___init__ sp_level_of sp_Reckoner_shares sp_Reckoner_letter_pairing) := by
  have nd : N_Reckoner___init__.Nodup := sc_Reckoner___init__.nd
  exact (s_seq (asg (s_tup (cons (v 1) (cons (idx (v 1) s_int) s_nil))) (gtup 2 (gcons (gfl h.f_Reckoner_kind (v 0)) (gcons (gfl h.f_Reckoner_orders (v 0)) s_gsnil))))
  (s_seq (asg (blt cd_len h.b_len (cons (idx (v 1) s_int) s_nil)) (gfl h.f_Reckoner_many (v 0)))
  (s_seq (asg (call c_level_of hr (Nat.le_succ _) (cons (v 1) s_nil)) (gfl h.f_Reckoner_level (v 0)))
  (s_seq (asg (lc [("at", 2), ("told", 3)] nd (enm h.b_enumerate (cons (idx (v 1) s_int) s_nil)) (fun _ _ _ _ _ => (ptup 2 (pcons (pn 2 nd) (pcons (pn 3 nd) pnil)))) (tg_tup (tgs_cons (tg_name (by decide)) (tgs_cons (tg_name (by decide)) tgs_nil))) (fun _ _ _ _ _ => ts0) (fun _ _ _ _ _ => (meth m_Reckoner_shares hr (Nat.le_succ _) (v 0) (cons (idx (v 3) (v 2)) s_nil)))) (gfl h.f_Reckoner_owns (v 0)))
  (s_seq (asg (lc [("one", 4)] nd (rng1 h.b_range (cons (fld h.f_Reckoner_many (v 0)) s_nil)) (fun _ _ _ _ _ => (pn 4 nd)) (tg_name (by decide)) (fun _ _ _ _ _ => ts0) (fun _ _ _ _ _ => (lc [("two", 5)] nd (rng1 h.b_range (cons (fld h.f_Reckoner_many (v 0)) s_nil)) (fun _ _ _ _ _ => (pn 5 nd)) (tg_name (by decide)) (fun _ _ _ _ _ => ts0) (fun _ _ _ _ _ => (meth m_Reckoner_letter_pairing hr (Nat.le_succ _) (v 0) (cons (v 4) (cons (v 5) s_nil))))))) (gfl h.f_Reckoner_pairs (v 0)))
  (s_last (asg s_dic0 (gfl h.f_Reckoner_known (v 0)))))))))
/-! Reckoner_shares -/
def w_Reckoner_shares : WS :=
  (wRet (wBin rMul (wBin rIdx (wVar 1) (wC (.int 0))) (wBin rFdiv (wFl "Reckoner" "level" (wVar 0)) (wBin rIdx (wVar 1) (wC (.int 1))))))
theorem wk_Reckoner_shares {P : Program} {w : World} {K : PySem.W.Frag} {mg : Str → Option Value} {base : Heap} {k : Nat} {fa : Addr} (h : Nm K mg)
    (cdv : Value) (A : Around) (outer : List Env) (s : Shared) (H : Hp) (E : XK) (hr : Room (k + 1) (A.deeper (envOfC "Reckoner.shares" (defScope st_Reckoner_shares) s.heap.objs.size fa cdv))) :
    SndSs (Xf P w K mg base N_Reckoner_shares "Reckoner.shares" st_Reckoner_shares fa cdv A outer s H E) (defBody st_Reckoner_shares) (w_Reckoner_shares) := by
  have nd : N_Reckoner_shares.Nodup := sc_Reckoner_shares.nd
  exact (s_last (s_ret (bop opd_mul (idx (v 1) s_int) (bop opd_fdiv (fld h.f_Reckoner_level (v 0)) (idx (v 1) s_int)))))
/-! Reckoner_letter_pairing -/
def w_Reckoner_letter_pairing (sp_Reckoner_shares : DSp) : WS :=
  (wSeq (wIfS (wTb (wBin rEq (wVar 1) (wVar 2))) (wRet (wBin rMod (wCall (on1 rInt) (wCons (wBin rMul (wC (.int 2)) (wBin rIdx (wFl "Reckoner" "owns" (wVar 0)) (wVar 1))) wNil)) (wFl "Reckoner" "level" (wVar 0)))) wNext)
  (wRet (wMt "Reckoner" "shares" 2 sp_Reckoner_shares (wVar 0) (wCons (wBin rIdx (wBin rIdx (wBin rIdx (wFl "Reckoner" "kind" (wVar 0)) (wC (.int 1))) (wCall (on2 rMax2) (wCons (wVar 1) (wCons (wVar 2) wNil)))) (wCall (on2 rMin2) (wCons (wVar 1) (wCons (wVar 2) wNil)))) wNil))))
theorem wk_Reckoner_letter_pairing {P : Program} {w : World} {K : PySem.W.Frag} {mg : Str → Option Value} {base : Heap} {k : Nat} {fa : Addr} {sp_Reckoner_shares : DSp} (h : Nm K mg) (m_Reckoner_shares : Mt P w K mg base k "Reckoner" "shares" ps_Reckoner_shares sp_Reckoner_shares)
    (cdv : Value) (A : Around) (outer : List Env) (s : Shared) (H : Hp) (E : XK) (hr : Room (k + 1) (A.deeper (envOfC "Reckoner.letter_pairing" (defScope st_Reckoner_letter_pairing) s.heap.objs.size fa cdv))) :
    SndSs (Xf P w K mg base N_Reckoner_letter_pairing "Reckoner.letter_pairing" st_Reckoner_letter_pairing fa cdv A outer s H E) (defBody st_Reckoner_letter_pairing) (w_Reckoner_letter_pairing sp_Reckoner_shares) := by
  have nd : N_Reckoner_letter_pairing.Nodup := sc_Reckoner_letter_pairing.nd
  exact (s_seq (s_ifS (cmpT (opd_eq hr.units) (v 1) (v 2)) (s_last (s_ret (bop opd_mod (btc cd_int h.b_int (cons (bop opd_mul s_int (idx (fld h.f_Reckoner_owns (v 0)) (v 1))) s_nil)) (fld h.f_Reckoner_level (v 0))))) s_done)
  (s_last (s_ret (meth m_Reckoner_shares hr (Nat.le_succ _) (v 0) (cons (idx (idx (idx (fld h.f_Reckoner_kind (v 0)) s_int) (blt (cd_max2 rfl) h.b_max (cons (v 1) (cons (v 2) s_nil)))) (blt (cd_min2 rfl) h.b_min (cons (v 1) (cons (v 2) s_nil)))) s_nil)))))
/-! Reckoner_order -/
def w_Reckoner_order (sp_common_multiple sp_common_divisor : DSp) : WS :=
  (wRet (wDef 1 sp_common_multiple (wCons (wLc [2, 3] (wZip (wCons (wFl "Reckoner" "orders" (wVar 0)) (wCons (wVar 1) wNil))) (gTp 2 (gsCons (gNm 2) (gsCons (gNm 3) gsNil))) wYes (wBin rFdiv (wVar 2) (wDef 2 sp_common_divisor (wCons (wVar 2) (wCons (wVar 3) wNil))))) wNil)))
theorem wk_Reckoner_order {P : Program} {w : World} {K : PySem.W.Frag} {mg : Str → Option Value} {base : Heap} {k : Nat} {fa : Addr} {sp_common_multiple sp_common_divisor : DSp} (h : Nm K mg) (c_common_multiple : Cl P w K mg base k st_common_multiple "common_multiple" ps_common_multiple sp_common_multiple) (c_common_divisor : Cl P w K mg base k st_common_divisor "common_divisor" ps_common_divisor sp_common_divisor)
    (cdv : Value) (A : Around) (outer : List Env) (s : Shared) (H : Hp) (E : XK) (hr : Room (k + 1) (A.deeper (envOfC "Reckoner.order" (defScope st_Reckoner_order) s.heap.objs.size fa cdv))) :
    SndSs (Xf P w K mg base N_Reckoner_order "Reckoner.order" st_Reckoner_order fa cdv A outer s H E) (defBody st_Reckoner_order) (w_Reckoner_order sp_common_multiple sp_common_divisor) := by
  have nd : N_Reckoner_order.Nodup := sc_Reckoner_order.nd
  exact (s_last (s_ret (call c_common_multiple hr (Nat.le_succ _) (cons (lc [("order", 2), ("number", 3)] nd (zp h.b_zip (cons (fld h.f_Reckoner_orders (v 0)) (cons (v 1) s_nil))) (fun _ _ _ _ _ => (ptup 2 (pcons (pn 2 nd) (pcons (pn 3 nd) pnil)))) (tg_tup (tgs_cons (tg_name (by decide)) (tgs_cons (tg_name (by decide)) tgs_nil))) (fun _ _ _ _ _ => ts0) (fun _ _ _ _ _ => (bop opd_fdiv (v 2) (call c_common_divisor hr (Nat.le_succ _) (cons (v 2) (cons (v 3) s_nil)))))) s_nil))))
/-! Reckoner_worth -/
def w_Reckoner_worth : WS :=
  (wSeq (wAsg (wC (.int 0)) (gNm 2))
  (wSeq (wFor (wEnum (wCons (wVar 1) wNil)) (gTp 2 (gsCons (gNm 3) (gsCons (gNm 4) gsNil))) (wIfS (wTb (wBin rNe (wVar 4) (wC (.int 0)))) (wSeq (wAsg (wCall (on1 rSumD) (wCons (wLc [6, 7] (wZip (wCons (wSlc (wVar 1) wNo (wSome (wVar 3))) (wCons (wBin rIdx (wFl "Reckoner" "pairs" (wVar 0)) (wVar 3)) wNil))) (gTp 2 (gsCons (gNm 6) (gsCons (gNm 7) gsNil))) wYes (wBin rMul (wVar 6) (wVar 7))) wNil)) (gNm 5))
  (wAsg (wBin rAdd (wVar 2) (wBin rMul (wVar 4) (wBin rAdd (wBin rMul (wVar 4) (wBin rIdx (wFl "Reckoner" "owns" (wVar 0)) (wVar 3))) (wVar 5)))) (gNm 2))) wNext))
  (wRet (wBin rMod (wCall (on1 rInt) (wCons (wVar 2) wNil)) (wFl "Reckoner" "level" (wVar 0))))))
theorem wk_Reckoner_worth {P : Program} {w : World} {K : PySem.W.Frag} {mg : Str → Option Value} {base : Heap} {k : Nat} {fa : Addr} (h : Nm K mg)
    (cdv : Value) (A : Around) (outer : List Env) (s : Shared) (H : Hp) (E : XK) (hr : Room (k + 1) (A.deeper (envOfC "Reckoner.worth" (defScope st_Reckoner_worth) s.heap.objs.size fa cdv))) :
    SndSs (Xf P w K mg base N_Reckoner_worth "Reckoner.worth" st_Reckoner_worth fa cdv A outer s H E) (defBody st_Reckoner_worth) (w_Reckoner_worth) := by
  have nd : N_Reckoner_worth.Nodup := sc_Reckoner_worth.nd
  exact (s_seq (set 2 nd s_int)
  (s_seq (forr (enm h.b_enumerate (cons (v 1) s_nil)) (gtup 2 (gcons (gn 3 nd) (gcons (gn 4 nd) s_gsnil))) (s_last (s_ifS (cmpT (opd_ne hr.units) (v 4) s_int) (s_seq (set 5 nd (blt (cd_sum rfl) h.b_sum (cons (lc [("other", 6), ("there", 7)] nd (zp h.b_zip (cons (s_slc (v 1) s_noPart (s_part (v 3))) (cons (idx (fld h.f_Reckoner_pairs (v 0)) (v 3)) s_nil))) (fun _ _ _ _ _ => (ptup 2 (pcons (pn 6 nd) (pcons (pn 7 nd) pnil)))) (tg_tup (tgs_cons (tg_name (by decide)) (tgs_cons (tg_name (by decide)) tgs_nil))) (fun _ _ _ _ _ => ts0) (fun _ _ _ _ _ => (bop opd_mul (v 6) (v 7)))) s_nil)))
  (s_last (set 2 nd (bop opd_add (v 2) (bop opd_mul (v 4) (bop opd_add (bop opd_mul (v 4) (idx (fld h.f_Reckoner_owns (v 0)) (v 3))) (v 5))))))) s_done)))
  (s_last (s_ret (bop opd_mod (btc cd_int h.b_int (cons (v 2) s_nil)) (fld h.f_Reckoner_level (v 0)))))))
/-! Reckoner_pairing -/
def w_Reckoner_pairing : WS :=
  (wSeq (wAsg (wC (.int 0)) (gNm 3))
  (wSeq (wFor (wZip (wCons (wVar 1) (wCons (wFl "Reckoner" "pairs" (wVar 0)) wNil))) (gTp 2 (gsCons (gNm 4) (gsCons (gNm 5) gsNil))) (wIfS (wTb (wBin rNe (wVar 4) (wC (.int 0)))) (wAsg (wBin rAdd (wVar 3) (wBin rMul (wVar 4) (wCall (on1 rSumD) (wCons (wLc [6, 7] (wZip (wCons (wVar 2) (wCons (wVar 5) wNil))) (gTp 2 (gsCons (gNm 6) (gsCons (gNm 7) gsNil))) wYes (wBin rMul (wVar 6) (wVar 7))) wNil)))) (gNm 3)) wNext))
  (wRet (wBin rMod (wCall (on1 rInt) (wCons (wVar 3) wNil)) (wFl "Reckoner" "level" (wVar 0))))))
theorem wk_Reckoner_pairing {P : Program} {w : World} {K : PySem.W.Frag} {mg : Str → Option Value} {base : Heap} {k : Nat} {fa : Addr} (h : Nm K mg)
    (cdv : Value) (A : Around) (outer : List Env) (s : Shared) (H : Hp) (E : XK) (hr : Room (k + 1) (A.deeper (envOfC "Reckoner.pairing" (defScope st_Reckoner_pairing) s.heap.objs.size fa cdv))) :
    SndSs (Xf P w K mg base N_Reckoner_pairing "Reckoner.pairing" st_Reckoner_pairing fa cdv A outer s H E) (defBody st_Reckoner_pairing) (w_Reckoner_pairing) := by
  have nd : N_Reckoner_pairing.Nodup := sc_Reckoner_pairing.nd
  exact (s_seq (set 3 nd s_int)
  (s_seq (forr (zp h.b_zip (cons (v 1) (cons (fld h.f_Reckoner_pairs (v 0)) s_nil))) (gtup 2 (gcons (gn 4 nd) (gcons (gn 5 nd) s_gsnil))) (s_last (s_ifS (cmpT (opd_ne hr.units) (v 4) s_int) (s_last (set 3 nd (bop opd_add (v 3) (bop opd_mul (v 4) (blt (cd_sum rfl) h.b_sum (cons (lc [("each", 6), ("there", 7)] nd (zp h.b_zip (cons (v 2) (cons (v 5) s_nil))) (fun _ _ _ _ _ => (ptup 2 (pcons (pn 6 nd) (pcons (pn 7 nd) pnil)))) (tg_tup (tgs_cons (tg_name (by decide)) (tgs_cons (tg_name (by decide)) tgs_nil))) (fun _ _ _ _ _ => ts0) (fun _ _ _ _ _ => (bop opd_mul (v 6) (v 7)))) s_nil)))))) s_done)))
  (s_last (s_ret (bop opd_mod (btc cd_int h.b_int (cons (v 3) s_nil)) (fld h.f_Reckoner_level (v 0)))))))
/-! Reckoner_told -/
def w_Reckoner_told (sp_fraction : DSp) : WS :=
  (wRet (wDef 2 sp_fraction (wCons (wVar 1) (wCons (wFl "Reckoner" "level" (wVar 0)) wNil))))
theorem wk_Reckoner_told {P : Program} {w : World} {K : PySem.W.Frag} {mg : Str → Option Value} {base : Heap} {k : Nat} {fa : Addr} {sp_fraction : DSp} (h : Nm K mg) (c_fraction : Cl P w K mg base k st_fraction "fraction" ps_fraction sp_fraction)
    (cdv : Value) (A : Around) (outer : List Env) (s : Shared) (H : Hp) (E : XK) (hr : Room (k + 1) (A.deeper (envOfC "Reckoner.told" (defScope st_Reckoner_told) s.heap.objs.size fa cdv))) :
    SndSs (Xf P w K mg base N_Reckoner_told "Reckoner.told" st_Reckoner_told fa cdv A outer s H E) (defBody st_Reckoner_told) (w_Reckoner_told sp_fraction) := by
  have nd : N_Reckoner_told.Nodup := sc_Reckoner_told.nd
  exact (s_last (s_ret (call c_fraction hr (Nat.le_succ _) (cons (v 1) (cons (fld h.f_Reckoner_level (v 0)) s_nil)))))
/-! worth_by -/
def w_worth_by (sp_Reckoner___init__ sp_Reckoner_told sp_Reckoner_worth : DSp) : WS :=
  (wSeq (wAsg (wMk "Reckoner" 2 sp_Reckoner___init__ (wCons (wVar 0) wNil)) (gNm 2))
  (wRet (wMt "Reckoner" "told" 2 sp_Reckoner_told (wVar 2) (wCons (wMt "Reckoner" "worth" 2 sp_Reckoner_worth (wVar 2) (wCons (wVar 1) wNil)) wNil))))
theorem wk_worth_by {P : Program} {w : World} {K : PySem.W.Frag} {mg : Str → Option Value} {base : Heap} {k : Nat} {fa : Addr} {sp_Reckoner___init__ sp_Reckoner_told sp_Reckoner_worth : DSp} (h : Nm K mg) (k_Reckoner : Mk1 P w K mg base k "Reckoner" ps_Reckoner___init__ sp_Reckoner___init__) (m_Reckoner_told : Mt P w K mg base k "Reckoner" "told" ps_Reckoner_told sp_Reckoner_told) (m_Reckoner_worth : Mt P w K mg base k "Reckoner" "worth" ps_Reckoner_worth sp_Reckoner_worth)
    (cdv : Value) (A : Around) (outer : List Env) (s : Shared) (H : Hp) (E : XK) (hr : Room (k + 1) (A.deeper (envOfC "worth_by" (defScope st_worth_by) s.heap.objs.size fa cdv))) :
    SndSs (Xf P w K mg base N_worth_by "worth_by" st_worth_by fa cdv A outer s H E) (defBody st_worth_by) (w_worth_by sp_Reckoner___init__ sp_Reckoner_told sp_Reckoner_worth) := by
  have nd : N_worth_by.Nodup := sc_worth_by.nd
  exact (s_seq (set 2 nd (make k_Reckoner hr (Nat.le_refl _) (cons (v 0) s_nil)))
  (s_last (s_ret (meth m_Reckoner_told hr (Nat.le_succ _) (v 2) (cons (meth m_Reckoner_worth hr (Nat.le_succ _) (v 2) (cons (v 1) s_nil)) s_nil)))))
/-! pairing_by -/
def w_pairing_by (sp_Reckoner___init__ sp_Reckoner_told sp_Reckoner_pairing : DSp) : WS :=
  (wSeq (wAsg (wMk "Reckoner" 2 sp_Reckoner___init__ (wCons (wVar 0) wNil)) (gNm 3))
  (wRet (wMt "Reckoner" "told" 2 sp_Reckoner_told (wVar 3) (wCons (wMt "Reckoner" "pairing" 3 sp_Reckoner_pairing (wVar 3) (wCons (wVar 1) (wCons (wVar 2) wNil))) wNil))))
theorem wk_pairing_by {P : Program} {w : World} {K : PySem.W.Frag} {mg : Str → Option Value} {base : Heap} {k : Nat} {fa : Addr} {sp_Reckoner___init__ sp_Reckoner_told sp_Reckoner_pairing : DSp} (h : Nm K mg) (k_Reckoner : Mk1 P w K mg base k "Reckoner" ps_Reckoner___init__ sp_Reckoner___init__) (m_Reckoner_told : Mt P w K mg base k "Reckoner" "told" ps_Reckoner_told sp_Reckoner_told) (m_Reckoner_pairing : Mt P w K mg base k "Reckoner" "pairing" ps_Reckoner_pairing sp_Reckoner_pairing)
    (cdv : Value) (A : Around) (outer : List Env) (s : Shared) (H : Hp) (E : XK) (hr : Room (k + 1) (A.deeper (envOfC "pairing_by" (defScope st_pairing_by) s.heap.objs.size fa cdv))) :
    SndSs (Xf P w K mg base N_pairing_by "pairing_by" st_pairing_by fa cdv A outer s H E) (defBody st_pairing_by) (w_pairing_by sp_Reckoner___init__ sp_Reckoner_told sp_Reckoner_pairing) := by
  have nd : N_pairing_by.Nodup := sc_pairing_by.nd
  exact (s_seq (set 3 nd (make k_Reckoner hr (Nat.le_refl _) (cons (v 0) s_nil)))
  (s_last (s_ret (meth m_Reckoner_told hr (Nat.le_succ _) (v 3) (cons (meth m_Reckoner_pairing hr (Nat.le_succ _) (v 3) (cons (v 1) (cons (v 2) s_nil))) s_nil)))))
/-! order_by -/
def w_order_by (sp_Reckoner___init__ sp_Reckoner_order : DSp) : WS :=
  (wRet (wMt "Reckoner" "order" 2 sp_Reckoner_order (wMk "Reckoner" 2 sp_Reckoner___init__ (wCons (wVar 0) wNil)) (wCons (wVar 1) wNil)))
theorem wk_order_by {P : Program} {w : World} {K : PySem.W.Frag} {mg : Str → Option Value} {base : Heap} {k : Nat} {fa : Addr} {sp_Reckoner___init__ sp_Reckoner_order : DSp} (h : Nm K mg) (k_Reckoner : Mk1 P w K mg base k "Reckoner" ps_Reckoner___init__ sp_Reckoner___init__) (m_Reckoner_order : Mt P w K mg base k "Reckoner" "order" ps_Reckoner_order sp_Reckoner_order)
    (cdv : Value) (A : Around) (outer : List Env) (s : Shared) (H : Hp) (E : XK) (hr : Room (k + 1) (A.deeper (envOfC "order_by" (defScope st_order_by) s.heap.objs.size fa cdv))) :
    SndSs (Xf P w K mg base N_order_by "order_by" st_order_by fa cdv A outer s H E) (defBody st_order_by) (w_order_by sp_Reckoner___init__ sp_Reckoner_order) := by
  have nd : N_order_by.Nodup := sc_order_by.nd
  exact (s_last (s_ret (meth m_Reckoner_order hr (Nat.le_succ _) (make k_Reckoner hr (Nat.le_refl _) (cons (v 0) s_nil)) (cons (v 1) s_nil))))
/-! check_kind -/
def w_check_kind (sp_is_kind_by : DSp) : WS :=
  (wIfS (wNotT (wTru (wDef 1 sp_is_kind_by (wCons (wVar 0) wNil)))) wNever wNext)
theorem wk_check_kind {P : Program} {w : World} {K : PySem.W.Frag} {mg : Str → Option Value} {base : Heap} {k : Nat} {fa : Addr} {sp_is_kind_by : DSp} (h : Nm K mg) (c_is_kind_by : Cl P w K mg base k st_is_kind_by "is_kind_by" ps_is_kind_by sp_is_kind_by)
    (cdv : Value) (A : Around) (outer : List Env) (s : Shared) (H : Hp) (E : XK) (hr : Room (k + 1) (A.deeper (envOfC "check_kind" (defScope st_check_kind) s.heap.objs.size fa cdv))) :
    SndSs (Xf P w K mg base N_check_kind "check_kind" st_check_kind fa cdv A outer s H E) (defBody st_check_kind) (w_check_kind sp_is_kind_by) := by
  have nd : N_check_kind.Nodup := sc_check_kind.nd
  exact (s_last (s_ifS (s_notT (tr (call c_is_kind_by hr (Nat.le_succ _) (cons (v 0) s_nil)))) (s_last s_never) s_done))
/-! check_row -/
def w_check_row (sp_is_row_by : DSp) : WS :=
  (wIfS (wNotT (wTru (wDef 2 sp_is_row_by (wCons (wVar 0) (wCons (wVar 1) wNil))))) wNever wNext)
theorem wk_check_row {P : Program} {w : World} {K : PySem.W.Frag} {mg : Str → Option Value} {base : Heap} {k : Nat} {fa : Addr} {sp_is_row_by : DSp} (h : Nm K mg) (c_is_row_by : Cl P w K mg base k st_is_row_by "is_row_by" ps_is_row_by sp_is_row_by)
    (cdv : Value) (A : Around) (outer : List Env) (s : Shared) (H : Hp) (E : XK) (hr : Room (k + 1) (A.deeper (envOfC "check_row" (defScope st_check_row) s.heap.objs.size fa cdv))) :
    SndSs (Xf P w K mg base N_check_row "check_row" st_check_row fa cdv A outer s H E) (defBody st_check_row) (w_check_row sp_is_row_by) := by
  have nd : N_check_row.Nodup := sc_check_row.nd
  exact (s_last (s_ifS (s_notT (tr (call c_is_row_by hr (Nat.le_succ _) (cons (v 0) (cons (v 1) s_nil))))) (s_last s_never) s_done))
/-! check_kind_and_row -/
def w_check_kind_and_row (sp_check_kind sp_check_row : DSp) : WS :=
  (wSeq (wDrop (wDef 1 sp_check_kind (wCons (wVar 0) wNil)))
  (wDrop (wDef 2 sp_check_row (wCons (wVar 0) (wCons (wVar 1) wNil)))))
theorem wk_check_kind_and_row {P : Program} {w : World} {K : PySem.W.Frag} {mg : Str → Option Value} {base : Heap} {k : Nat} {fa : Addr} {sp_check_kind sp_check_row : DSp} (h : Nm K mg) (c_check_kind : Cl P w K mg base k st_check_kind "check_kind" ps_check_kind sp_check_kind) (c_check_row : Cl P w K mg base k st_check_row "check_row" ps_check_row sp_check_row)
    (cdv : Value) (A : Around) (outer : List Env) (s : Shared) (H : Hp) (E : XK) (hr : Room (k + 1) (A.deeper (envOfC "check_kind_and_row" (defScope st_check_kind_and_row) s.heap.objs.size fa cdv))) :
    SndSs (Xf P w K mg base N_check_kind_and_row "check_kind_and_row" st_check_kind_and_row fa cdv A outer s H E) (defBody st_check_kind_and_row) (w_check_kind_and_row sp_check_kind sp_check_row) := by
  have nd : N_check_kind_and_row.Nodup := sc_check_kind_and_row.nd
  exact (s_seq (drp (call c_check_kind hr (Nat.le_succ _) (cons (v 0) s_nil)))
  (s_last (drp (call c_check_row hr (Nat.le_succ _) (cons (v 0) (cons (v 1) s_nil))))))
/-! is_kind -/
def w_is_kind (sp_is_kind_by : DSp) : WS :=
  (wRet (wDef 1 sp_is_kind_by (wCons (wVar 0) wNil)))
theorem wk_is_kind {P : Program} {w : World} {K : PySem.W.Frag} {mg : Str → Option Value} {base : Heap} {k : Nat} {fa : Addr} {sp_is_kind_by : DSp} (h : Nm K mg) (c_is_kind_by : Cl P w K mg base k st_is_kind_by "is_kind_by" ps_is_kind_by sp_is_kind_by)
    (cdv : Value) (A : Around) (outer : List Env) (s : Shared) (H : Hp) (E : XK) (hr : Room (k + 1) (A.deeper (envOfC "is_kind" (defScope st_is_kind) s.heap.objs.size fa cdv))) :
    SndSs (Xf P w K mg base N_is_kind "is_kind" st_is_kind fa cdv A outer s H E) (defBody st_is_kind) (w_is_kind sp_is_kind_by) := by
  have nd : N_is_kind.Nodup := sc_is_kind.nd
  exact (s_last (s_ret (call c_is_kind_by hr (Nat.le_succ _) (cons (v 0) s_nil))))
/-! plain -/
def w_plain (sp_check_kind_and_row sp_plain_by : DSp) : WS :=
  (wSeq (wDrop (wDef 2 sp_check_kind_and_row (wCons (wVar 0) (wCons (wVar 1) wNil))))
  (wRet (wDef 2 sp_plain_by (wCons (wVar 0) (wCons (wVar 1) wNil)))))
theorem wk_plain {P : Program} {w : World} {K : PySem.W.Frag} {mg : Str → Option Value} {base : Heap} {k : Nat} {fa : Addr} {sp_check_kind_and_row sp_plain_by : DSp} (h : Nm K mg) (c_check_kind_and_row : Cl P w K mg base k st_check_kind_and_row "check_kind_and_row" ps_check_kind_and_row sp_check_kind_and_row) (c_plain_by : Cl P w K mg base k st_plain_by "plain_by" ps_plain_by sp_plain_by)
    (cdv : Value) (A : Around) (outer : List Env) (s : Shared) (H : Hp) (E : XK) (hr : Room (k + 1) (A.deeper (envOfC "plain" (defScope st_plain) s.heap.objs.size fa cdv))) :
    SndSs (Xf P w K mg base N_plain "plain" st_plain fa cdv A outer s H E) (defBody st_plain) (w_plain sp_check_kind_and_row sp_plain_by) := by
  have nd : N_plain.Nodup := sc_plain.nd
  exact (s_seq (drp (call c_check_kind_and_row hr (Nat.le_succ _) (cons (v 0) (cons (v 1) s_nil))))
  (s_last (s_ret (call c_plain_by hr (Nat.le_succ _) (cons (v 0) (cons (v 1) s_nil))))))
/-! worth -/
def w_worth (sp_check_kind_and_row sp_worth_by : DSp) : WS :=
  (wSeq (wDrop (wDef 2 sp_check_kind_and_row (wCons (wVar 0) (wCons (wVar 1) wNil))))
  (wRet (wDef 2 sp_worth_by (wCons (wVar 0) (wCons (wVar 1) wNil)))))
theorem wk_worth {P : Program} {w : World} {K : PySem.W.Frag} {mg : Str → Option Value} {base : Heap} {k : Nat} {fa : Addr} {sp_check_kind_and_row sp_worth_by : DSp} (h : Nm K mg) (c_check_kind_and_row : Cl P w K mg base k st_check_kind_and_row "check_kind_and_row" ps_check_kind_and_row sp_check_kind_and_row) (c_worth_by : Cl P w K mg base k st_worth_by "worth_by" ps_worth_by sp_worth_by)
    (cdv : Value) (A : Around) (outer : List Env) (s : Shared) (H : Hp) (E : XK) (hr : Room (k + 1) (A.deeper (envOfC "worth" (defScope st_worth) s.heap.objs.size fa cdv))) :
    SndSs (Xf P w K mg base N_worth "worth" st_worth fa cdv A outer s H E) (defBody st_worth) (w_worth sp_check_kind_and_row sp_worth_by) := by
  have nd : N_worth.Nodup := sc_worth.nd
  exact (s_seq (drp (call c_check_kind_and_row hr (Nat.le_succ _) (cons (v 0) (cons (v 1) s_nil))))
  (s_last (s_ret (call c_worth_by hr (Nat.le_succ _) (cons (v 0) (cons (v 1) s_nil))))))
/-! pairing -/
def w_pairing (sp_check_kind_and_row sp_check_row sp_pairing_by : DSp) : WS :=
  (wSeq (wDrop (wDef 2 sp_check_kind_and_row (wCons (wVar 0) (wCons (wVar 1) wNil))))
  (wSeq (wDrop (wDef 2 sp_check_row (wCons (wVar 0) (wCons (wVar 2) wNil))))
  (wRet (wDef 3 sp_pairing_by (wCons (wVar 0) (wCons (wVar 1) (wCons (wVar 2) wNil)))))))
theorem wk_pairing {P : Program} {w : World} {K : PySem.W.Frag} {mg : Str → Option Value} {base : Heap} {k : Nat} {fa : Addr} {sp_check_kind_and_row sp_check_row sp_pairing_by : DSp} (h : Nm K mg) (c_check_kind_and_row : Cl P w K mg base k st_check_kind_and_row "check_kind_and_row" ps_check_kind_and_row sp_check_kind_and_row) (c_check_row : Cl P w K mg base k st_check_row "check_row" ps_check_row sp_check_row) (c_pairing_by : Cl P w K mg base k st_pairing_by "pairing_by" ps_pairing_by sp_pairing_by)
    (cdv : Value) (A : Around) (outer : List Env) (s : Shared) (H : Hp) (E : XK) (hr : Room (k + 1) (A.deeper (envOfC "pairing" (defScope st_pairing) s.heap.objs.size fa cdv))) :
    SndSs (Xf P w K mg base N_pairing "pairing" st_pairing fa cdv A outer s H E) (defBody st_pairing) (w_pairing sp_check_kind_and_row sp_check_row sp_pairing_by) := by
  have nd : N_pairing.Nodup := sc_pairing.nd
  exact (s_seq (drp (call c_check_kind_and_row hr (Nat.le_succ _) (cons (v 0) (cons (v 1) s_nil))))
  (s_seq (drp (call c_check_row hr (Nat.le_succ _) (cons (v 0) (cons (v 2) s_nil))))
  (s_last (s_ret (call c_pairing_by hr (Nat.le_succ _) (cons (v 0) (cons (v 1) (cons (v 2) s_nil))))))))
/-! order -/
def w_order (sp_check_kind_and_row sp_order_by : DSp) : WS :=
  (wSeq (wDrop (wDef 2 sp_check_kind_and_row (wCons (wVar 0) (wCons (wVar 1) wNil))))
  (wRet (wDef 2 sp_order_by (wCons (wVar 0) (wCons (wVar 1) wNil)))))
theorem wk_order {P : Program} {w : World} {K : PySem.W.Frag} {mg : Str → Option Value} {base : Heap} {k : Nat} {fa : Addr} {sp_check_kind_and_row sp_order_by : DSp} (h : Nm K mg) (c_check_kind_and_row : Cl P w K mg base k st_check_kind_and_row "check_kind_and_row" ps_check_kind_and_row sp_check_kind_and_row) (c_order_by : Cl P w K mg base k st_order_by "order_by" ps_order_by sp_order_by)
    (cdv : Value) (A : Around) (outer : List Env) (s : Shared) (H : Hp) (E : XK) (hr : Room (k + 1) (A.deeper (envOfC "order" (defScope st_order) s.heap.objs.size fa cdv))) :
    SndSs (Xf P w K mg base N_order "order" st_order fa cdv A outer s H E) (defBody st_order) (w_order sp_check_kind_and_row sp_order_by) := by
  have nd : N_order.Nodup := sc_order.nd
  exact (s_seq (drp (call c_check_kind_and_row hr (Nat.le_succ _) (cons (v 0) (cons (v 1) s_nil))))
  (s_last (s_ret (call c_order_by hr (Nat.le_succ _) (cons (v 0) (cons (v 1) s_nil))))))
/-! all_rows -/
def w_all_rows (sp_check_kind sp_all_rows_by : DSp) : WS :=
  (wSeq (wDrop (wDef 1 sp_check_kind (wCons (wVar 0) wNil)))
  (wRet (wCall (on1 rTupleOf) (wCons (wDef 1 sp_all_rows_by (wCons (wVar 0) wNil)) wNil))))
theorem wk_all_rows {P : Program} {w : World} {K : PySem.W.Frag} {mg : Str → Option Value} {base : Heap} {k : Nat} {fa : Addr} {sp_check_kind sp_all_rows_by : DSp} (h : Nm K mg) (c_check_kind : Cl P w K mg base k st_check_kind "check_kind" ps_check_kind sp_check_kind) (c_all_rows_by : Cl P w K mg base k st_all_rows_by "all_rows_by" ps_all_rows_by sp_all_rows_by)
    (cdv : Value) (A : Around) (outer : List Env) (s : Shared) (H : Hp) (E : XK) (hr : Room (k + 1) (A.deeper (envOfC "all_rows" (defScope st_all_rows) s.heap.objs.size fa cdv))) :
    SndSs (Xf P w K mg base N_all_rows "all_rows" st_all_rows fa cdv A outer s H E) (defBody st_all_rows) (w_all_rows sp_check_kind sp_all_rows_by) := by
  have nd : N_all_rows.Nodup := sc_all_rows.nd
  exact (s_seq (drp (call c_check_kind hr (Nat.le_succ _) (cons (v 0) s_nil)))
  (s_last (s_ret (btc cd_tuple h.b_tuple (cons (call c_all_rows_by hr (Nat.le_succ _) (cons (v 0) s_nil)) s_nil)))))
/-! beside_by -/
def w_beside_by : WS :=
  (wSeq (wAsg (wBin rMul (wTup (wCons (wC g_NOUGHT) wNil)) (wCall (on1 rLen) (wCons (wBin rIdx (wVar 0) (wC (.int 0))) wNil))) (gNm 2))
  (wRet (wTup (wCons (wBin rAdd (wBin rIdx (wVar 0) (wC (.int 0))) (wBin rIdx (wVar 1) (wC (.int 0)))) (wCons (wBin rAdd (wBin rIdx (wVar 0) (wC (.int 1))) (wCall (on1 rTupleOf) (wCons (wLc [3] (wIter (wBin rIdx (wVar 1) (wC (.int 1)))) (gNm 3) wYes (wBin rAdd (wVar 2) (wVar 3))) wNil))) wNil)))))
theorem wk_beside_by {P : Program} {w : World} {K : PySem.W.Frag} {mg : Str → Option Value} {base : Heap} {k : Nat} {fa : Addr} (h : Nm K mg)
    (cdv : Value) (A : Around) (outer : List Env) (s : Shared) (H : Hp) (E : XK) (hr : Room (k + 1) (A.deeper (envOfC "beside_by" (defScope st_beside_by) s.heap.objs.size fa cdv))) :
    SndSs (Xf P w K mg base N_beside_by "beside_by" st_beside_by fa cdv A outer s H E) (defBody st_beside_by) (w_beside_by) := by
  have nd : N_beside_by.Nodup := sc_beside_by.nd
  exact (s_seq (set 2 nd (bop opd_mul (s_tup (cons (gl h.g_NOUGHT) s_nil)) (blt cd_len h.b_len (cons (idx (v 0) s_int) s_nil))))
  (s_last (s_ret (s_tup (cons (bop opd_add (idx (v 0) s_int) (idx (v 1) s_int)) (cons (bop opd_add (idx (v 0) s_int) (btc cd_tuple h.b_tuple (cons (lc [("told", 3)] nd (s_iter (idx (v 1) s_int)) (fun _ _ _ _ _ => (pn 3 nd)) (tg_name (by decide)) (fun _ _ _ _ _ => ts0) (fun _ _ _ _ _ => (bop opd_add (v 2) (v 3)))) s_nil))) s_nil))))))
/-! beside -/
def w_beside (sp_check_kind sp_size_by sp_beside_by : DSp) : WS :=
  (wSeq (wDrop (wDef 1 sp_check_kind (wCons (wVar 0) wNil)))
  (wSeq (wDrop (wDef 1 sp_check_kind (wCons (wVar 1) wNil)))
  (wSeq (wIfS (wTb (wBin rGt (wBin rMul (wDef 1 sp_size_by (wCons (wVar 0) wNil)) (wDef 1 sp_size_by (wCons (wVar 1) wNil))) (wC g_MOST_SIZE))) wNever wNext)
  (wRet (wDef 2 sp_beside_by (wCons (wVar 0) (wCons (wVar 1) wNil)))))))
theorem wk_beside {P : Program} {w : World} {K : PySem.W.Frag} {mg : Str → Option Value} {base : Heap} {k : Nat} {fa : Addr} {sp_check_kind sp_size_by sp_beside_by : DSp} (h : Nm K mg) (c_check_kind : Cl P w K mg base k st_check_kind "check_kind" ps_check_kind sp_check_kind) (c_size_by : Cl P w K mg base k st_size_by "size_by" ps_size_by sp_size_by) (c_beside_by : Cl P w K mg base k st_beside_by "beside_by" ps_beside_by sp_beside_by)
    (cdv : Value) (A : Around) (outer : List Env) (s : Shared) (H : Hp) (E : XK) (hr : Room (k + 1) (A.deeper (envOfC "beside" (defScope st_beside) s.heap.objs.size fa cdv))) :
    SndSs (Xf P w K mg base N_beside "beside" st_beside fa cdv A outer s H E) (defBody st_beside) (w_beside sp_check_kind sp_size_by sp_beside_by) := by
  have nd : N_beside.Nodup := sc_beside.nd
  exact (s_seq (drp (call c_check_kind hr (Nat.le_succ _) (cons (v 0) s_nil)))
  (s_seq (drp (call c_check_kind hr (Nat.le_succ _) (cons (v 1) s_nil)))
  (s_seq (s_ifS (cmpT opd_gt (bop opd_mul (call c_size_by hr (Nat.le_succ _) (cons (v 0) s_nil)) (call c_size_by hr (Nat.le_succ _) (cons (v 1) s_nil))) (gl h.g_MOST_SIZE)) (s_last s_never) s_done)
  (s_last (s_ret (call c_beside_by hr (Nat.le_succ _) (cons (v 0) (cons (v 1) s_nil))))))))
/-! _law_tide -/
def w__law_tide : WS :=
  (wSeq (wAsg (wIf (wTb (wBin rLt (wVar 1) (wCall (on1 rLen) (wCons (wVar 0) wNil)))) (wCall (on1 rInt) (wCons (wBin rIdx (wVar 0) (wVar 1)) wNil)) (wBin rAdd (wC (.int 848)) (wBin rMul (wC (.int 29)) (wVar 1)))) (gNm 2))
  (wSeq (wAsg (wBin rAdd (wC (.int 80802)) (wBin rMul (wC (.int 13)) (wVar 1))) (gNm 3))
  (wSeq (wFor (wEnum (wCons (wSlc (wVar 0) wNo (wSome (wC (.int 32)))) wNil)) (gTp 2 (gsCons (gNm 4) (gsCons (gNm 5) gsNil))) (wAsg (wBin rMod (wCall (on1 rInt) (wCons (wBin rAdd (wBin rAdd (wBin rMul (wVar 3) (wC (.int 2862933555777941757))) (wBin rMul (wBin rMod (wCall (on1 rInt) (wCons (wVar 5) wNil)) (wC (.int 1000000021))) (wBin rAdd (wBin rMul (wC (.int 2)) (wVar 4)) (wC (.int 7))))) (wC (.int 5))) wNil)) (wC (.int 9223372036854775783))) (gNm 3)))
  (wSeq (wAsg (wBin rMod (wCall (on1 rInt) (wCons (wBin rAdd (wBin rAdd (wBin rMul (wVar 3) (wC (.int 2862933555777941757))) (wBin rMod (wVar 2) (wC (.int 1000000021)))) (wC (.int 3))) wNil)) (wC (.int 9223372036854775783))) (gNm 3))
  (wRet (wLst (wCons (wVar 3) (wCons (wIf (wOrT (wTb (wBin rLt (wVar 2) (wC (.int 0)))) (wTb (wBin rGe (wVar 2) (wBin rPow (wC (.int 10)) (wC (.int 18)))))) (wBin rMod (wCall (on1 rInt) (wCons (wCall (on1 rAbs) (wCons (wVar 2) wNil)) wNil)) (wBin rPow (wC (.int 10)) (wC (.int 58)))) (wC (.int 0))) wNil))))))))
theorem wk__law_tide {P : Program} {w : World} {K : PySem.W.Frag} {mg : Str → Option Value} {base : Heap} {k : Nat} {fa : Addr} (h : Nm K mg)
    (cdv : Value) (A : Around) (outer : List Env) (s : Shared) (H : Hp) (E : XK) (hr : Room (k + 1) (A.deeper (envOfC "_law_tide" (defScope st__law_tide) s.heap.objs.size fa cdv))) :
    SndSs (Xf P w K mg base N__law_tide "_law_tide" st__law_tide fa cdv A outer s H E) (defBody st__law_tide) (w__law_tide) := by
  have nd : N__law_tide.Nodup := sc__law_tide.nd
  exact (s_seq (set 2 nd (s_if (cmpT opd_lt (v 1) (blt cd_len h.b_len (cons (v 0) s_nil))) (btc cd_int h.b_int (cons (idx (v 0) (v 1)) s_nil)) (bop opd_add s_int (bop opd_mul s_int (v 1)))))
  (s_seq (set 3 nd (bop opd_add s_int (bop opd_mul s_int (v 1))))
  (s_seq (forr (enm h.b_enumerate (cons (s_slc (v 0) s_noPart (s_part s_int)) s_nil)) (gtup 2 (gcons (gn 4 nd) (gcons (gn 5 nd) s_gsnil))) (s_last (set 3 nd (bop opd_mod (btc cd_int h.b_int (cons (bop opd_add (bop opd_add (bop opd_mul (v 3) s_int) (bop opd_mul (bop opd_mod (btc cd_int h.b_int (cons (v 5) s_nil)) s_int) (bop opd_add (bop opd_mul s_int (v 4)) s_int))) s_int) s_nil)) s_int))))
  (s_seq (set 3 nd (bop opd_mod (btc cd_int h.b_int (cons (bop opd_add (bop opd_add (bop opd_mul (v 3) s_int) (bop opd_mod (v 2) s_int)) s_int) s_nil)) s_int))
  (s_last (s_ret (s_lst (cons (v 3) (cons (s_if (ofW (s_orW (cmpT opd_lt (v 2) s_int) (orT1 (cmpT opd_ge (v 2) (bop opd_pow s_int s_int))))) (bop opd_mod (btc cd_int h.b_int (cons (blt cd_abs h.b_abs (cons (v 2) s_nil)) s_nil)) (bop opd_pow s_int s_int)) s_int) s_nil)))))))))
/-! _law_wave -/
def w__law_wave : WS :=
  (wSeq (wIfS (wTb (wBin rGt (wBin rIdx (wVar 0) (wC (.int 1))) (wC (.int 0)))) (wSeq (wAsg (wCall (on2 rDivmod) (wCons (wBin rIdx (wVar 0) (wC (.int 1))) (wCons (wVar 1) wNil))) (gTp 2 (gsCons (gIx (wVar 0) (wC (.int 1))) (gsCons (gNm 2) gsNil))))
  (wRet (wVar 2))) wNext)
  (wSeq (wAsg (wBin rMod (wCall (on1 rInt) (wCons (wBin rAdd (wBin rMul (wBin rIdx (wVar 0) (wC (.int 0))) (wC (.int 3935559000370003845))) (wC (.int 2691343689449507681))) wNil)) (wC (.int 9223372036854775783))) (gIx (wVar 0) (wC (.int 0))))
  (wRet (wBin rMod (wCall (on1 rInt) (wCons (wBin rFdiv (wBin rIdx (wVar 0) (wC (.int 0))) (wC (.int 4294967296))) wNil)) (wVar 1)))))
theorem wk__law_wave {P : Program} {w : World} {K : PySem.W.Frag} {mg : Str → Option Value} {base : Heap} {k : Nat} {fa : Addr} (h : Nm K mg)
    (cdv : Value) (A : Around) (outer : List Env) (s : Shared) (H : Hp) (E : XK) (hr : Room (k + 1) (A.deeper (envOfC "_law_wave" (defScope st__law_wave) s.heap.objs.size fa cdv))) :
    SndSs (Xf P w K mg base N__law_wave "_law_wave" st__law_wave fa cdv A outer s H E) (defBody st__law_wave) (w__law_wave) := by
  have nd : N__law_wave.Nodup := sc__law_wave.nd
  exact (s_seq (s_ifS (cmpT opd_gt (idx (v 0) s_int) s_int) (s_seq (asg (blt cd_divmod h.b_divmod (cons (idx (v 0) s_int) (cons (v 1) s_nil))) (gtup 2 (gcons (gix (v 0) s_int) (gcons (gn 2 nd) s_gsnil))))
  (s_last (s_ret (v 2)))) s_done)
  (s_seq (asg (bop opd_mod (btc cd_int h.b_int (cons (bop opd_add (bop opd_mul (idx (v 0) s_int) s_int) s_int) s_nil)) s_int) (gix (v 0) s_int))
  (s_last (s_ret (bop opd_mod (btc cd_int h.b_int (cons (bop opd_fdiv (idx (v 0) s_int) s_int) s_nil)) (v 1))))))
/-! _law_one -/
def w__law_one (sp__law_wave : DSp) : WS :=
  (wRet (wBin rIdx (wVar 1) (wDef 2 sp__law_wave (wCons (wVar 0) (wCons (wCall (on1 rLen) (wCons (wVar 1) wNil)) wNil)))))
theorem wk__law_one {P : Program} {w : World} {K : PySem.W.Frag} {mg : Str → Option Value} {base : Heap} {k : Nat} {fa : Addr} {sp__law_wave : DSp} (h : Nm K mg) (c__law_wave : Cl P w K mg base k st__law_wave "_law_wave" ps__law_wave sp__law_wave)
    (cdv : Value) (A : Around) (outer : List Env) (s : Shared) (H : Hp) (E : XK) (hr : Room (k + 1) (A.deeper (envOfC "_law_one" (defScope st__law_one) s.heap.objs.size fa cdv))) :
    SndSs (Xf P w K mg base N__law_one "_law_one" st__law_one fa cdv A outer s H E) (defBody st__law_one) (w__law_one sp__law_wave) := by
  have nd : N__law_one.Nodup := sc__law_one.nd
  exact (s_last (s_ret (idx (v 1) (call c__law_wave hr (Nat.le_succ _) (cons (v 0) (cons (blt cd_len h.b_len (cons (v 1) s_nil)) s_nil))))))
/-! _law_like -/
def w__law_like (sp__law_like : DSp) : WS :=
  (wSeq (wIfS (wTru (wCall (on2 rIsiD) (wCons (wVar 1) (wCons (wC (.ty "tuple")) wNil)))) (wRet (wAnd (wCall (on2 rIsiD) (wCons (wVar 0) (wCons (wC (.ty "tuple")) wNil))) (wAnd (wBin rEq (wCall (on1 rLen) (wCons (wVar 0) wNil)) (wCall (on1 rLen) (wCons (wVar 1) wNil))) (wBin (rInD true) (wC (.bl false)) (wLc [2, 3] (wZip (wCons (wVar 0) (wCons (wVar 1) wNil))) (gTp 2 (gsCons (gNm 2) (gsCons (gNm 3) gsNil))) wYes (wDef 2 sp__law_like (wCons (wVar 2) (wCons (wVar 3) wNil)))))))) wNext)
  (wSeq (wIfS (wOrT (wTb (wBin (isD false) (wVar 1) (wC .non))) (wTru (wCall (on2 rIsiD) (wCons (wVar 1) (wCons (wC (.ty "bool")) wNil))))) (wRet (wIf (wTb (wBin (isD false) (wVar 1) (wC .non))) (wBin (isD false) (wVar 0) (wC .non)) (wAnd (wCall (on2 rIsiD) (wCons (wVar 0) (wCons (wC (.ty "bool")) wNil))) (wBin rEq (wVar 0) (wVar 1))))) wNext)
  (wSeq (wIfS (wTru (wCall (on2 rIsiD) (wCons (wVar 1) (wCons (wC (.ty "int")) wNil)))) (wRet (wAnd (wCall (on2 rIsiD) (wCons (wVar 0) (wCons (wC (.ty "int")) wNil))) (wAnd (wNot (wCall (on2 rIsiD) (wCons (wVar 0) (wCons (wC (.ty "bool")) wNil)))) (wBin rEq (wVar 0) (wVar 1))))) wNext)
  (wRet (wAnd (wCall (on2 rIsiD) (wCons (wVar 0) (wCons (wC (.ty "str")) wNil))) (wAnd (wCall (on2 rIsiD) (wCons (wVar 1) (wCons (wC (.ty "str")) wNil))) (wBin rEq (wVar 0) (wVar 1))))))))
theorem wk__law_like {P : Program} {w : World} {K : PySem.W.Frag} {mg : Str → Option Value} {base : Heap} {k : Nat} {fa : Addr} {sp__law_like : DSp} (h : Nm K mg) (c__law_like : Cl P w K mg base k st__law_like "_law_like" ps__law_like sp__law_like)
    (cdv : Value) (A : Around) (outer : List Env) (s : Shared) (H : Hp) (E : XK) (hr : Room (k + 1) (A.deeper (envOfC "_law_like" (defScope st__law_like) s.heap.objs.size fa cdv))) :
    SndSs (Xf P w K mg base N__law_like "_law_like" st__law_like fa cdv A outer s H E) (defBody st__law_like) (w__law_like sp__law_like) := by
  have nd : N__law_like.Nodup := sc__law_like.nd
  exact (s_seq (s_ifS (tr (blt cd_isi h.b_isinstance (cons (v 1) (cons (bty "tuple" h.b_tuple) s_nil)))) (s_last (s_ret (s_and (blt cd_isi h.b_isinstance (cons (v 0) (cons (bty "tuple" h.b_tuple) s_nil))) (s_and (cmp (opd_eq hr.units) (blt cd_len h.b_len (cons (v 0) s_nil)) (blt cd_len h.b_len (cons (v 1) s_nil))) (s_one (cmp opd_notIn s_bl (lc [("one", 2), ("two", 3)] nd (zp h.b_zip (cons (v 0) (cons (v 1) s_nil))) (fun _ _ _ _ _ => (ptup 2 (pcons (pn 2 nd) (pcons (pn 3 nd) pnil)))) (tg_tup (tgs_cons (tg_name (by decide)) (tgs_cons (tg_name (by decide)) tgs_nil))) (fun _ _ _ _ _ => ts0) (fun _ _ _ _ _ => (call c__law_like hr (Nat.le_succ _) (cons (v 2) (cons (v 3) s_nil))))))))))) s_done)
  (s_seq (s_ifS (ofW (s_orW (cmpT opd_is (v 1) s_non) (orT1 (tr (blt cd_isi h.b_isinstance (cons (v 1) (cons (bty "bool" h.b_bool) s_nil))))))) (s_last (s_ret (s_if (cmpT opd_is (v 1) s_non) (cmp opd_is (v 0) s_non) (s_and (blt cd_isi h.b_isinstance (cons (v 0) (cons (bty "bool" h.b_bool) s_nil))) (s_one (cmp (opd_eq hr.units) (v 0) (v 1))))))) s_done)
  (s_seq (s_ifS (tr (blt cd_isi h.b_isinstance (cons (v 1) (cons (bty "int" h.b_int) s_nil)))) (s_last (s_ret (s_and (blt cd_isi h.b_isinstance (cons (v 0) (cons (bty "int" h.b_int) s_nil))) (s_and (s_not (blt cd_isi h.b_isinstance (cons (v 0) (cons (bty "bool" h.b_bool) s_nil)))) (s_one (cmp (opd_eq hr.units) (v 0) (v 1))))))) s_done)
  (s_last (s_ret (s_and (blt cd_isi h.b_isinstance (cons (v 0) (cons (bty "str" h.b_str) s_nil))) (s_and (blt cd_isi h.b_isinstance (cons (v 1) (cons (bty "str" h.b_str) s_nil))) (s_one (cmp (opd_eq hr.units) (v 0) (v 1))))))))))
/-! _law_common -/
def w__law_common : WS :=
  (wSeq (wPar [0, 1] (wCons (wCall (on1 rAbs) (wCons (wVar 0) wNil)) (wCons (wCall (on1 rAbs) (wCons (wVar 1) wNil)) wNil)))
  (wSeq (wFor (wRange1 (wCons (wBin rAdd (wBin rMul (wC (.int 2)) (wBin rAdd (wBits (wVar 0)) (wBits (wVar 1)))) (wC (.int 2))) wNil)) (gNm 2) (wAsg (wIf (wTb (wBin rGt (wVar 1) (wC (.int 0)))) (wTup (wCons (wVar 1) (wCons (wBin rMod (wCall (on1 rInt) (wCons (wVar 0) wNil)) (wVar 1)) wNil))) (wTup (wCons (wVar 0) (wCons (wC (.int 0)) wNil)))) (gTp 2 (gsCons (gNm 0) (gsCons (gNm 1) gsNil)))))
  (wRet (wVar 0))))
theorem wk__law_common {P : Program} {w : World} {K : PySem.W.Frag} {mg : Str → Option Value} {base : Heap} {k : Nat} {fa : Addr} (h : Nm K mg)
    (cdv : Value) (A : Around) (outer : List Env) (s : Shared) (H : Hp) (E : XK) (hr : Room (k + 1) (A.deeper (envOfC "_law_common" (defScope st__law_common) s.heap.objs.size fa cdv))) :
    SndSs (Xf P w K mg base N__law_common "_law_common" st__law_common fa cdv A outer s H E) (defBody st__law_common) (w__law_common) := by
  have nd : N__law_common.Nodup := sc__law_common.nd
  exact (s_seq (par [("one", 0), ("two", 1)] nd (cons (blt cd_abs h.b_abs (cons (v 0) s_nil)) (cons (blt cd_abs h.b_abs (cons (v 1) s_nil)) s_nil)))
  (s_seq (forr (rng1 h.b_range (cons (bop opd_add (bop opd_mul s_int (bop opd_add (bits (v 0)) (bits (v 1)))) s_int) s_nil)) (gn 2 nd) (s_last (asg (s_if (cmpT opd_gt (v 1) s_int) (s_tup (cons (v 1) (cons (bop opd_mod (btc cd_int h.b_int (cons (v 0) s_nil)) (v 1)) s_nil))) (s_tup (cons (v 0) (cons s_int s_nil)))) (gtup 2 (gcons (gn 0 nd) (gcons (gn 1 nd) s_gsnil))))))
  (s_last (s_ret (v 0)))))
/-! _law_round_one -/
def w__law_round_one (sp__law_common : DSp) : WS :=
  (wSeq (wAsg (wBin rMod (wCall (on1 rInt) (wCons (wVar 0) wNil)) (wVar 1)) (gNm 2))
  (wSeq (wAsg (wDef 2 sp__law_common (wCons (wVar 2) (wCons (wVar 1) wNil))) (gNm 3))
  (wRet (wTup (wCons (wBin rFdiv (wVar 2) (wVar 3)) (wCons (wBin rFdiv (wVar 1) (wVar 3)) wNil))))))
theorem wk__law_round_one {P : Program} {w : World} {K : PySem.W.Frag} {mg : Str → Option Value} {base : Heap} {k : Nat} {fa : Addr} {sp__law_common : DSp} (h : Nm K mg) (c__law_common : Cl P w K mg base k st__law_common "_law_common" ps__law_common sp__law_common)
    (cdv : Value) (A : Around) (outer : List Env) (s : Shared) (H : Hp) (E : XK) (hr : Room (k + 1) (A.deeper (envOfC "_law_round_one" (defScope st__law_round_one) s.heap.objs.size fa cdv))) :
    SndSs (Xf P w K mg base N__law_round_one "_law_round_one" st__law_round_one fa cdv A outer s H E) (defBody st__law_round_one) (w__law_round_one sp__law_common) := by
  have nd : N__law_round_one.Nodup := sc__law_round_one.nd
  exact (s_seq (set 2 nd (bop opd_mod (btc cd_int h.b_int (cons (v 0) s_nil)) (v 1)))
  (s_seq (set 3 nd (call c__law_common hr (Nat.le_succ _) (cons (v 2) (cons (v 1) s_nil))))
  (s_last (s_ret (s_tup (cons (bop opd_fdiv (v 2) (v 3)) (cons (bop opd_fdiv (v 1) (v 3)) s_nil)))))))
/-! _law_added -/
def w__law_added (sp__law_round_one : DSp) : WS :=
  (wRet (wDef 2 sp__law_round_one (wCons (wBin rAdd (wBin rMul (wBin rIdx (wVar 0) (wC (.int 0))) (wBin rIdx (wVar 1) (wC (.int 1)))) (wBin rMul (wBin rIdx (wVar 1) (wC (.int 0))) (wBin rIdx (wVar 0) (wC (.int 1))))) (wCons (wBin rMul (wBin rIdx (wVar 0) (wC (.int 1))) (wBin rIdx (wVar 1) (wC (.int 1)))) wNil))))
theorem wk__law_added {P : Program} {w : World} {K : PySem.W.Frag} {mg : Str → Option Value} {base : Heap} {k : Nat} {fa : Addr} {sp__law_round_one : DSp} (h : Nm K mg) (c__law_round_one : Cl P w K mg base k st__law_round_one "_law_round_one" ps__law_round_one sp__law_round_one)
    (cdv : Value) (A : Around) (outer : List Env) (s : Shared) (H : Hp) (E : XK) (hr : Room (k + 1) (A.deeper (envOfC "_law_added" (defScope st__law_added) s.heap.objs.size fa cdv))) :
    SndSs (Xf P w K mg base N__law_added "_law_added" st__law_added fa cdv A outer s H E) (defBody st__law_added) (w__law_added sp__law_round_one) := by
  have nd : N__law_added.Nodup := sc__law_added.nd
  exact (s_last (s_ret (call c__law_round_one hr (Nat.le_succ _) (cons (bop opd_add (bop opd_mul (idx (v 0) s_int) (idx (v 1) s_int)) (bop opd_mul (idx (v 1) s_int) (idx (v 0) s_int))) (cons (bop opd_mul (idx (v 0) s_int) (idx (v 1) s_int)) s_nil)))))
/-! _law_times -/
def w__law_times (sp__law_round_one : DSp) : WS :=
  (wRet (wDef 2 sp__law_round_one (wCons (wBin rMul (wBin rIdx (wVar 0) (wC (.int 0))) (wVar 1)) (wCons (wBin rIdx (wVar 0) (wC (.int 1))) wNil))))
theorem wk__law_times {P : Program} {w : World} {K : PySem.W.Frag} {mg : Str → Option Value} {base : Heap} {k : Nat} {fa : Addr} {sp__law_round_one : DSp} (h : Nm K mg) (c__law_round_one : Cl P w K mg base k st__law_round_one "_law_round_one" ps__law_round_one sp__law_round_one)
    (cdv : Value) (A : Around) (outer : List Env) (s : Shared) (H : Hp) (E : XK) (hr : Room (k + 1) (A.deeper (envOfC "_law_times" (defScope st__law_times) s.heap.objs.size fa cdv))) :
    SndSs (Xf P w K mg base N__law_times "_law_times" st__law_times fa cdv A outer s H E) (defBody st__law_times) (w__law_times sp__law_round_one) := by
  have nd : N__law_times.Nodup := sc__law_times.nd
  exact (s_last (s_ret (call c__law_round_one hr (Nat.le_succ _) (cons (bop opd_mul (idx (v 0) s_int) (v 1)) (cons (idx (v 0) s_int) s_nil)))))
/-! _law_plain -/
def w__law_plain : WS :=
  (wRet (wCall (on1 rTupleOf) (wCons (wLc [2, 3] (wZip (wCons (wVar 1) (wCons (wBin rIdx (wVar 0) (wC (.int 0))) wNil))) (gTp 2 (gsCons (gNm 2) (gsCons (gNm 3) gsNil))) wYes (wBin rMod (wCall (on1 rInt) (wCons (wVar 2) wNil)) (wVar 3))) wNil)))
theorem wk__law_plain {P : Program} {w : World} {K : PySem.W.Frag} {mg : Str → Option Value} {base : Heap} {k : Nat} {fa : Addr} (h : Nm K mg)
    (cdv : Value) (A : Around) (outer : List Env) (s : Shared) (H : Hp) (E : XK) (hr : Room (k + 1) (A.deeper (envOfC "_law_plain" (defScope st__law_plain) s.heap.objs.size fa cdv))) :
    SndSs (Xf P w K mg base N__law_plain "_law_plain" st__law_plain fa cdv A outer s H E) (defBody st__law_plain) (w__law_plain) := by
  have nd : N__law_plain.Nodup := sc__law_plain.nd
  exact (s_last (s_ret (btc cd_tuple h.b_tuple (cons (lc [("number", 2), ("order_of", 3)] nd (zp h.b_zip (cons (v 1) (cons (idx (v 0) s_int) s_nil))) (fun _ _ _ _ _ => (ptup 2 (pcons (pn 2 nd) (pcons (pn 3 nd) pnil)))) (tg_tup (tgs_cons (tg_name (by decide)) (tgs_cons (tg_name (by decide)) tgs_nil))) (fun _ _ _ _ _ => ts0) (fun _ _ _ _ _ => (bop opd_mod (btc cd_int h.b_int (cons (v 2) s_nil)) (v 3)))) s_nil))))
/-! _law_worth -/
def w__law_worth (sp__law_added sp__law_times : DSp) : WS :=
  (wSeq (wAsg (wTup (wCons (wC (.int 0)) (wCons (wC (.int 1)) wNil))) (gNm 2))
  (wSeq (wFor (wEnum (wCons (wBin rIdx (wVar 0) (wC (.int 1))) wNil)) (gTp 2 (gsCons (gNm 3) (gsCons (gNm 4) gsNil))) (wFor (wEnum (wCons (wVar 4) wNil)) (gTp 2 (gsCons (gNm 5) (gsCons (gNm 6) gsNil))) (wAsg (wDef 2 sp__law_added (wCons (wVar 2) (wCons (wDef 2 sp__law_times (wCons (wVar 6) (wCons (wBin rMul (wBin rIdx (wVar 1) (wVar 3)) (wBin rIdx (wVar 1) (wVar 5))) wNil))) wNil))) (gNm 2))))
  (wRet (wVar 2))))
theorem wk__law_worth {P : Program} {w : World} {K : PySem.W.Frag} {mg : Str → Option Value} {base : Heap} {k : Nat} {fa : Addr} {sp__law_added sp__law_times : DSp} (h : Nm K mg) (c__law_added : Cl P w K mg base k st__law_added "_law_added" ps__law_added sp__law_added) (c__law_times : Cl P w K mg base k st__law_times "_law_times" ps__law_times sp__law_times)
    (cdv : Value) (A : Around) (outer : List Env) (s : Shared) (H : Hp) (E : XK) (hr : Room (k + 1) (A.deeper (envOfC "_law_worth" (defScope st__law_worth) s.heap.objs.size fa cdv))) :
    SndSs (Xf P w K mg base N__law_worth "_law_worth" st__law_worth fa cdv A outer s H E) (defBody st__law_worth) (w__law_worth sp__law_added sp__law_times) := by
  have nd : N__law_worth.Nodup := sc__law_worth.nd
  exact (s_seq (set 2 nd (s_tup (cons s_int (cons s_int s_nil))))
  (s_seq (forr (enm h.b_enumerate (cons (idx (v 0) s_int) s_nil)) (gtup 2 (gcons (gn 3 nd) (gcons (gn 4 nd) s_gsnil))) (s_last (forr (enm h.b_enumerate (cons (v 4) s_nil)) (gtup 2 (gcons (gn 5 nd) (gcons (gn 6 nd) s_gsnil))) (s_last (set 2 nd (call c__law_added hr (Nat.le_succ _) (cons (v 2) (cons (call c__law_times hr (Nat.le_succ _) (cons (v 6) (cons (bop opd_mul (idx (v 1) (v 3)) (idx (v 1) (v 5))) s_nil))) s_nil))))))))
  (s_last (s_ret (v 2)))))
/-! _law_pairing -/
def w__law_pairing (sp__law_worth sp__law_added sp__law_times : DSp) : WS :=
  (wSeq (wAsg (wDef 2 sp__law_worth (wCons (wVar 0) (wCons (wCall (on1 rTupleOf) (wCons (wLc [4, 5] (wZip (wCons (wVar 1) (wCons (wVar 2) wNil))) (gTp 2 (gsCons (gNm 4) (gsCons (gNm 5) gsNil))) wYes (wBin rAdd (wVar 4) (wVar 5))) wNil)) wNil))) (gNm 3))
  (wRet (wDef 2 sp__law_added (wCons (wVar 3) (wCons (wDef 2 sp__law_times (wCons (wDef 2 sp__law_added (wCons (wDef 2 sp__law_worth (wCons (wVar 0) (wCons (wVar 1) wNil))) (wCons (wDef 2 sp__law_worth (wCons (wVar 0) (wCons (wVar 2) wNil))) wNil))) (wCons (wUn rNeg (wC (.int 1))) wNil))) wNil)))))
theorem wk__law_pairing {P : Program} {w : World} {K : PySem.W.Frag} {mg : Str → Option Value} {base : Heap} {k : Nat} {fa : Addr} {sp__law_worth sp__law_added sp__law_times : DSp} (h : Nm K mg) (c__law_worth : Cl P w K mg base k st__law_worth "_law_worth" ps__law_worth sp__law_worth) (c__law_added : Cl P w K mg base k st__law_added "_law_added" ps__law_added sp__law_added) (c__law_times : Cl P w K mg base k st__law_times "_law_times" ps__law_times sp__law_times)
    (cdv : Value) (A : Around) (outer : List Env) (s : Shared) (H : Hp) (E : XK) (hr : Room (k + 1) (A.deeper (envOfC "_law_pairing" (defScope st__law_pairing) s.heap.objs.size fa cdv))) :
    SndSs (Xf P w K mg base N__law_pairing "_law_pairing" st__law_pairing fa cdv A outer s H E) (defBody st__law_pairing) (w__law_pairing sp__law_worth sp__law_added sp__law_times) := by
  have nd : N__law_pairing.Nodup := sc__law_pairing.nd
  exact (s_seq (set 3 nd (call c__law_worth hr (Nat.le_succ _) (cons (v 0) (cons (btc cd_tuple h.b_tuple (cons (lc [("a", 4), ("b", 5)] nd (zp h.b_zip (cons (v 1) (cons (v 2) s_nil))) (fun _ _ _ _ _ => (ptup 2 (pcons (pn 4 nd) (pcons (pn 5 nd) pnil)))) (tg_tup (tgs_cons (tg_name (by decide)) (tgs_cons (tg_name (by decide)) tgs_nil))) (fun _ _ _ _ _ => ts0) (fun _ _ _ _ _ => (bop opd_add (v 4) (v 5)))) s_nil)) s_nil))))
  (s_last (s_ret (call c__law_added hr (Nat.le_succ _) (cons (v 3) (cons (call c__law_times hr (Nat.le_succ _) (cons (call c__law_added hr (Nat.le_succ _) (cons (call c__law_worth hr (Nat.le_succ _) (cons (v 0) (cons (v 1) s_nil))) (cons (call c__law_worth hr (Nat.le_succ _) (cons (v 0) (cons (v 2) s_nil))) s_nil))) (cons (s_un und_neg s_int) s_nil))) s_nil))))))
/-! _law_drawn_kind -/
def w__law_drawn_kind (sp__law_wave sp__law_one sp__law_round_one sp__law_common : DSp) : WS :=
  (wSeq (wPar [3, 4, 5] (wCons (wTup wNil) (wCons (wTup wNil) (wCons (wVar 1) wNil))))
  (wSeq (wFor (wRange1 (wCons (wDef 2 sp__law_wave (wCons (wVar 0) (wCons (wBin rAdd (wVar 2) (wC (.int 1))) wNil))) wNil)) (gNm 6) (wSeq (wAsg (wDef 2 sp__law_one (wCons (wVar 0) (wCons (wTup (wCons (wC (.int 2)) (wCons (wC (.int 2)) (wCons (wC (.int 2)) (wCons (wC (.int 3)) (wCons (wC (.int 4)) (wCons (wC (.int 4)) (wCons (wC (.int 5)) (wCons (wC (.int 6)) (wCons (wC (.int 8)) (wCons (wC (.int 9)) (wCons (wC (.int 12)) (wCons (wC (.int 16)) wNil))))))))))))) wNil))) (gNm 7))
  (wIfS (wTb (wBin rLe (wVar 7) (wVar 5))) (wSeq (wAsg (wIf (wTb (wBin rEq (wBin rMod (wCall (on1 rInt) (wCons (wVar 7) wNil)) (wC (.int 2))) (wC (.int 1)))) (wVar 7) (wBin rMul (wC (.int 2)) (wVar 7))) (gNm 8))
  (wSeq (wAsg (wLc [10] (wIter (wVar 3)) (gNm 10) wYes (wDef 2 sp__law_round_one (wCons (wDef 2 sp__law_wave (wCons (wVar 0) (wCons (wC (.int 7)) wNil))) (wCons (wDef 2 sp__law_common (wCons (wVar 7) (wCons (wVar 10) wNil))) wNil)))) (gNm 9))
  (wPar [3, 4, 5] (wCons (wBin rAdd (wVar 3) (wTup (wCons (wVar 7) wNil))) (wCons (wBin rAdd (wVar 4) (wTup (wCons (wBin rAdd (wCall (on1 rTupleOf) (wCons (wVar 9) wNil)) (wTup (wCons (wDef 2 sp__law_round_one (wCons (wDef 2 sp__law_one (wCons (wVar 0) (wCons (wTup (wCons (wC (.int 0)) (wCons (wC (.int 1)) (wCons (wC (.int 1)) (wCons (wC (.int 2)) (wCons (wDef 2 sp__law_wave (wCons (wVar 0) (wCons (wVar 8) wNil))) wNil)))))) wNil))) (wCons (wVar 8) wNil))) wNil))) wNil))) (wCons (wBin rFdiv (wVar 5) (wVar 7)) wNil)))))) wNext)))
  (wRet (wTup (wCons (wVar 3) (wCons (wVar 4) wNil))))))
theorem wk__law_drawn_kind {P : Program} {w : World} {K : PySem.W.Frag} {mg : Str → Option Value} {base : Heap} {k : Nat} {fa : Addr} {sp__law_wave sp__law_one sp__law_round_one sp__law_common : DSp} (h : Nm K mg) (c__law_wave : Cl P w K mg base k st__law_wave "_law_wave" ps__law_wave sp__law_wave) (c__law_one : Cl P w K mg base k st__law_one "_law_one" ps__law_one sp__law_one) (c__law_round_one : Cl P w K mg base k st__law_round_one "_law_round_one" ps__law_round_one sp__law_round_one) (c__law_common : Cl P w K mg base k st__law_common "_law_common" ps__law_common sp__law_common)
    (cdv : Value) (A : Around) (outer : List Env) (s : Shared) (H : Hp) (E : XK) (hr : Room (k + 1) (A.deeper (envOfC "_law_drawn_kind" (defScope st__law_drawn_kind) s.heap.objs.size fa cdv))) :
    SndSs (Xf P w K mg base N__law_drawn_kind "_law_drawn_kind" st__law_drawn_kind fa cdv A outer s H E) (defBody st__law_drawn_kind) (w__law_drawn_kind sp__law_wave sp__law_one sp__law_round_one sp__law_common) := by
  have nd : N__law_drawn_kind.Nodup := sc__law_drawn_kind.nd
  exact (s_seq (par [("orders", 3), ("worths", 4), ("left", 5)] nd (cons (s_tup s_nil) (cons (s_tup s_nil) (cons (v 1) s_nil))))
  (s_seq (forr (rng1 h.b_range (cons (call c__law_wave hr (Nat.le_succ _) (cons (v 0) (cons (bop opd_add (v 2) s_int) s_nil))) s_nil)) (gn 6 nd) (s_seq (set 7 nd (call c__law_one hr (Nat.le_succ _) (cons (v 0) (cons (s_tup (cons s_int (cons s_int (cons s_int (cons s_int (cons s_int (cons s_int (cons s_int (cons s_int (cons s_int (cons s_int (cons s_int (cons s_int s_nil))))))))))))) s_nil))))
  (s_last (s_ifS (cmpT opd_le (v 7) (v 5)) (s_seq (set 8 nd (s_if (cmpT (opd_eq hr.units) (bop opd_mod (btc cd_int h.b_int (cons (v 7) s_nil)) s_int) s_int) (v 7) (bop opd_mul s_int (v 7))))
  (s_seq (setLc 9 [("other", 10)] nd (s_iter (v 3)) (fun _ _ _ _ _ => (pn 10 nd)) (tg_name (by decide)) (fun _ _ _ _ _ => ts0) (fun _ _ _ _ _ => (call c__law_round_one hr (Nat.le_succ _) (cons (call c__law_wave hr (Nat.le_succ _) (cons (v 0) (cons s_int s_nil))) (cons (call c__law_common hr (Nat.le_succ _) (cons (v 7) (cons (v 10) s_nil))) s_nil)))))
  (s_last (par [("orders", 3), ("worths", 4), ("left", 5)] nd (cons (bop opd_add (v 3) (s_tup (cons (v 7) s_nil))) (cons (bop opd_add (v 4) (s_tup (cons (bop opd_add (btc cd_tuple h.b_tuple (cons (v 9) s_nil)) (s_tup (cons (call c__law_round_one hr (Nat.le_succ _) (cons (call c__law_one hr (Nat.le_succ _) (cons (v 0) (cons (s_tup (cons s_int (cons s_int (cons s_int (cons s_int (cons (call c__law_wave hr (Nat.le_succ _) (cons (v 0) (cons (v 8) s_nil))) s_nil)))))) s_nil))) (cons (v 8) s_nil))) s_nil))) s_nil))) (cons (bop opd_fdiv (v 5) (v 7)) s_nil))))))) s_done))))
  (s_last (s_ret (s_tup (cons (v 3) (cons (v 4) s_nil)))))))
/-! _law_order -/
def w__law_order (sp__law_common : DSp) : WS :=
  (wSeq (wAsg (wC (.int 1)) (gNm 2))
  (wSeq (wFor (wZip (wCons (wVar 1) (wCons (wBin rIdx (wVar 0) (wC (.int 0))) wNil))) (gTp 2 (gsCons (gNm 3) (gsCons (gNm 4) gsNil))) (wSeq (wAsg (wBin rFdiv (wVar 4) (wDef 2 sp__law_common (wCons (wVar 3) (wCons (wVar 4) wNil)))) (gNm 5))
  (wAsg (wBin rFdiv (wBin rMul (wVar 2) (wVar 5)) (wDef 2 sp__law_common (wCons (wVar 2) (wCons (wVar 5) wNil)))) (gNm 2))))
  (wRet (wVar 2))))
theorem wk__law_order {P : Program} {w : World} {K : PySem.W.Frag} {mg : Str → Option Value} {base : Heap} {k : Nat} {fa : Addr} {sp__law_common : DSp} (h : Nm K mg) (c__law_common : Cl P w K mg base k st__law_common "_law_common" ps__law_common sp__law_common)
    (cdv : Value) (A : Around) (outer : List Env) (s : Shared) (H : Hp) (E : XK) (hr : Room (k + 1) (A.deeper (envOfC "_law_order" (defScope st__law_order) s.heap.objs.size fa cdv))) :
    SndSs (Xf P w K mg base N__law_order "_law_order" st__law_order fa cdv A outer s H E) (defBody st__law_order) (w__law_order sp__law_common) := by
  have nd : N__law_order.Nodup := sc__law_order.nd
  exact (s_seq (set 2 nd s_int)
  (s_seq (forr (zp h.b_zip (cons (v 1) (cons (idx (v 0) s_int) s_nil))) (gtup 2 (gcons (gn 3 nd) (gcons (gn 4 nd) s_gsnil))) (s_seq (set 5 nd (bop opd_fdiv (v 4) (call c__law_common hr (Nat.le_succ _) (cons (v 3) (cons (v 4) s_nil)))))
  (s_last (set 2 nd (bop opd_fdiv (bop opd_mul (v 2) (v 5)) (call c__law_common hr (Nat.le_succ _) (cons (v 2) (cons (v 5) s_nil))))))))
  (s_last (s_ret (v 2)))))
/-! _law_drawn_row -/
def w__law_drawn_row (sp__law_wave sp__law_one : DSp) : WS :=
  (wRet (wCall (on1 rTupleOf) (wCons (wLc [2] (wIter (wBin rIdx (wVar 1) (wC (.int 0)))) (gNm 2) wYes (wBin rAdd (wDef 2 sp__law_wave (wCons (wVar 0) (wCons (wVar 2) wNil))) (wDef 2 sp__law_one (wCons (wVar 0) (wCons (wTup (wCons (wC (.int 0)) (wCons (wC (.int 0)) (wCons (wBin rSub (wC (.int 0)) (wVar 2)) (wCons (wBin rMul (wC (.int 7)) (wVar 2)) wNil))))) wNil))))) wNil)))
theorem wk__law_drawn_row {P : Program} {w : World} {K : PySem.W.Frag} {mg : Str → Option Value} {base : Heap} {k : Nat} {fa : Addr} {sp__law_wave sp__law_one : DSp} (h : Nm K mg) (c__law_wave : Cl P w K mg base k st__law_wave "_law_wave" ps__law_wave sp__law_wave) (c__law_one : Cl P w K mg base k st__law_one "_law_one" ps__law_one sp__law_one)
    (cdv : Value) (A : Around) (outer : List Env) (s : Shared) (H : Hp) (E : XK) (hr : Room (k + 1) (A.deeper (envOfC "_law_drawn_row" (defScope st__law_drawn_row) s.heap.objs.size fa cdv))) :
    SndSs (Xf P w K mg base N__law_drawn_row "_law_drawn_row" st__law_drawn_row fa cdv A outer s H E) (defBody st__law_drawn_row) (w__law_drawn_row sp__law_wave sp__law_one) := by
  have nd : N__law_drawn_row.Nodup := sc__law_drawn_row.nd
  exact (s_last (s_ret (btc cd_tuple h.b_tuple (cons (lc [("order_of", 2)] nd (s_iter (idx (v 1) s_int)) (fun _ _ _ _ _ => (pn 2 nd)) (tg_name (by decide)) (fun _ _ _ _ _ => ts0) (fun _ _ _ _ _ => (bop opd_add (call c__law_wave hr (Nat.le_succ _) (cons (v 0) (cons (v 2) s_nil))) (call c__law_one hr (Nat.le_succ _) (cons (v 0) (cons (s_tup (cons s_int (cons s_int (cons (bop opd_sub s_int (v 2)) (cons (bop opd_mul s_int (v 2)) s_nil))))) s_nil)))))) s_nil))))
/-! _law_put -/
def w__law_put : WS :=
  (wRet (wCall (on1 rTupleOf) (wCons (wLc [4, 5] (wZip (wCons (wVar 1) (wCons (wVar 2) wNil))) (gTp 2 (gsCons (gNm 4) (gsCons (gNm 5) gsNil))) wYes (wBin rAdd (wVar 4) (wBin rMul (wVar 3) (wVar 5)))) wNil)))
theorem wk__law_put {P : Program} {w : World} {K : PySem.W.Frag} {mg : Str → Option Value} {base : Heap} {k : Nat} {fa : Addr} (h : Nm K mg)
    (cdv : Value) (A : Around) (outer : List Env) (s : Shared) (H : Hp) (E : XK) (hr : Room (k + 1) (A.deeper (envOfC "_law_put" (defScope st__law_put) s.heap.objs.size fa cdv))) :
    SndSs (Xf P w K mg base N__law_put "_law_put" st__law_put fa cdv A outer s H E) (defBody st__law_put) (w__law_put) := by
  have nd : N__law_put.Nodup := sc__law_put.nd
  exact (s_last (s_ret (btc cd_tuple h.b_tuple (cons (lc [("a", 4), ("b", 5)] nd (zp h.b_zip (cons (v 1) (cons (v 2) s_nil))) (fun _ _ _ _ _ => (ptup 2 (pcons (pn 4 nd) (pcons (pn 5 nd) pnil)))) (tg_tup (tgs_cons (tg_name (by decide)) (tgs_cons (tg_name (by decide)) tgs_nil))) (fun _ _ _ _ _ => ts0) (fun _ _ _ _ _ => (bop opd_add (v 4) (bop opd_mul (v 3) (v 5))))) s_nil))))
/-! _law_right -/
def w__law_right (sp__law_drawn_kind sp__law_one sp__law_drawn_row sp__law_plain sp_order sp_worth sp_plain sp__law_like sp__law_worth sp__law_order sp_is_kind sp__law_pairing sp_pairing sp__law_times sp__law_put sp__law_added sp_beside sp_all_rows : DSp) : WS :=
  (wSeq (wFor (wRange1 (wCons (wC (.int 12)) wNil)) (gNm 1) (wSeq (wAsg (wDef 3 sp__law_drawn_kind (wCons (wVar 0) (wCons (wC (.int 200)) (wCons (wC (.int 4)) wNil)))) (gNm 2))
  (wSeq (wAsg (wDef 2 sp__law_one (wCons (wVar 0) (wCons (wTup (wCons (wC (.int 0)) (wCons (wC (.int 0)) (wCons (wBin rPow (wC (.int 10)) (wC (.int 40))) wNil)))) wNil))) (gNm 3))
  (wSeq (wAsg (wLc [7] (wRange1 (wCons (wC (.int 3)) wNil)) (gNm 7) wYes (wCall (on1 rTupleOf) (wCons (wLc [8, 9] (wZip (wCons (wDef 2 sp__law_drawn_row (wCons (wVar 0) (wCons (wVar 2) wNil))) (wCons (wBin rIdx (wVar 2) (wC (.int 0))) wNil))) (gTp 2 (gsCons (gNm 8) (gsCons (gNm 9) gsNil))) wYes (wBin rAdd (wVar 8) (wBin rMul (wVar 3) (wVar 9)))) wNil))) (gTp 3 (gsCons (gNm 4) (gsCons (gNm 5) (gsCons (gNm 6) gsNil)))))
  (wSeq (wAsg (wDef 2 sp__law_plain (wCons (wVar 2) (wCons (wVar 4) wNil))) (gNm 10))
  (wSeq (wAsg (wTup (wCons (wDef 2 sp_plain (wCons (wVar 2) (wCons (wVar 4) wNil))) (wCons (wDefK 2 [1, 0] sp_plain (wCons (wVar 4) (wCons (wVar 2) wNil))) (wCons (wDef 2 sp_worth (wCons (wVar 2) (wCons (wVar 4) wNil))) (wCons (wDefK 2 [1, 0] sp_worth (wCons (wVar 10) (wCons (wVar 2) wNil))) (wCons (wDef 2 sp_order (wCons (wVar 2) (wCons (wVar 4) wNil))) (wCons (wDefK 2 [1, 0] sp_order (wCons (wVar 10) (wCons (wVar 2) wNil))) wNil))))))) (gNm 11))
  (wSeq (wIfS (wOrT (wNotT (wTru (wDef 2 sp__law_like (wCons (wVar 11) (wCons (wBin rAdd (wBin rAdd (wTup (wCons (wVar 10) (wCons (wVar 10) wNil))) (wBin rMul (wTup (wCons (wDef 2 sp__law_worth (wCons (wVar 2) (wCons (wVar 10) wNil))) wNil)) (wC (.int 2)))) (wBin rMul (wTup (wCons (wDef 2 sp__law_order (wCons (wVar 2) (wCons (wVar 10) wNil))) wNil)) (wC (.int 2)))) wNil))))) (wTb (wBin (isD true) (wDef 1 sp_is_kind (wCons (wVar 2) wNil)) (wC (.bl true))))) (wRet (wC (.bl false))) wNext)
  (wSeq (wAsg (wDef 3 sp__law_pairing (wCons (wVar 2) (wCons (wVar 10) (wCons (wDef 2 sp__law_plain (wCons (wVar 2) (wCons (wVar 5) wNil))) wNil)))) (gNm 12))
  (wSeq (wIfS (wNotT (wTru (wDef 2 sp__law_like (wCons (wTup (wCons (wDef 3 sp_pairing (wCons (wVar 2) (wCons (wVar 4) (wCons (wVar 5) wNil)))) (wCons (wDef 3 sp_pairing (wCons (wVar 2) (wCons (wVar 5) (wCons (wVar 4) wNil)))) (wCons (wDefK 3 [2, 1, 0] sp_pairing (wCons (wVar 5) (wCons (wVar 10) (wCons (wVar 2) wNil)))) wNil)))) (wCons (wBin rMul (wTup (wCons (wVar 12) wNil)) (wC (.int 3))) wNil))))) (wRet (wC (.bl false))) wNext)
  (wSeq (wIfS (wNotT (wTru (wDef 2 sp__law_like (wCons (wDef 3 sp_pairing (wCons (wVar 2) (wCons (wVar 4) (wCons (wVar 4) wNil)))) (wCons (wDef 2 sp__law_times (wCons (wDef 2 sp_worth (wCons (wVar 2) (wCons (wVar 4) wNil))) (wCons (wC (.int 2)) wNil))) wNil))))) (wRet (wC (.bl false))) wNext)
  (wSeq (wAsg (wDef 2 sp__law_one (wCons (wVar 0) (wCons (wTup (wCons (wC (.int 0)) (wCons (wC (.int 1)) (wCons (wUn rNeg (wC (.int 1))) (wCons (wC (.int 2)) (wCons (wC (.int 3)) (wCons (wC (.int 7)) (wCons (wBin rPow (wC (.int 10)) (wC (.int 12))) wNil)))))))) wNil))) (gNm 13))
  (wSeq (wAsg (wCall (on1 rTupleOf) (wCons (wLc [8] (wIter (wVar 4)) (gNm 8) wYes (wBin rMul (wVar 13) (wVar 8))) wNil)) (gNm 14))
  (wSeq (wIfS (wNotT (wTru (wDef 2 sp__law_like (wCons (wTup (wCons (wDef 2 sp_worth (wCons (wVar 2) (wCons (wVar 14) wNil))) (wCons (wDef 3 sp_pairing (wCons (wVar 2) (wCons (wVar 14) (wCons (wVar 5) wNil)))) wNil))) (wCons (wTup (wCons (wDef 2 sp__law_times (wCons (wDef 2 sp__law_worth (wCons (wVar 2) (wCons (wVar 10) wNil))) (wCons (wBin rMul (wVar 13) (wVar 13)) wNil))) (wCons (wDef 2 sp__law_times (wCons (wVar 12) (wCons (wVar 13) wNil))) wNil))) wNil))))) (wRet (wC (.bl false))) wNext)
  (wSeq (wAsg (wDef 4 sp__law_put (wCons (wVar 2) (wCons (wVar 5) (wCons (wVar 6) (wCons (wVar 13) wNil))))) (gNm 15))
  (wSeq (wIfS (wNotT (wTru (wDef 2 sp__law_like (wCons (wDef 3 sp_pairing (wCons (wVar 2) (wCons (wVar 4) (wCons (wVar 15) wNil)))) (wCons (wDef 2 sp__law_added (wCons (wVar 12) (wCons (wDef 2 sp__law_times (wCons (wDef 3 sp_pairing (wCons (wVar 2) (wCons (wVar 4) (wCons (wVar 6) wNil)))) (wCons (wVar 13) wNil))) wNil))) wNil))))) (wRet (wC (.bl false))) wNext)
  (wSeq (wIfS (wNotT (wTru (wDef 2 sp__law_like (wCons (wDef 2 sp_worth (wCons (wVar 2) (wCons (wDef 4 sp__law_put (wCons (wVar 2) (wCons (wVar 4) (wCons (wVar 5) (wCons (wC (.int 1)) wNil))))) wNil))) (wCons (wDef 2 sp__law_added (wCons (wDef 2 sp__law_added (wCons (wDef 2 sp_worth (wCons (wVar 2) (wCons (wVar 4) wNil))) (wCons (wDef 2 sp_worth (wCons (wVar 2) (wCons (wVar 5) wNil))) wNil))) (wCons (wVar 12) wNil))) wNil))))) (wRet (wC (.bl false))) wNext)
  (wSeq (wAsg (wDef 2 sp_order (wCons (wVar 2) (wCons (wVar 4) wNil))) (gNm 16))
  (wSeq (wIfS (wOrT (wTru (wCall (on1 (rAnyD fun bs => bs.any id)) (wCons (wDef 2 sp__law_plain (wCons (wVar 2) (wCons (wLc [8] (wIter (wVar 4)) (gNm 8) wYes (wBin rMul (wVar 16) (wVar 8))) wNil))) wNil))) (wTb (wBin rNe (wLc [17] (wRange2 (wCons (wC (.int 1)) (wCons (wCall (on2 rMin2) (wCons (wVar 16) (wCons (wC (.int 60)) wNil))) wNil))) (gNm 17) (wNotT (wTru (wCall (on1 (rAnyD fun bs => bs.any id)) (wCons (wDef 2 sp__law_plain (wCons (wVar 2) (wCons (wLc [8] (wIter (wVar 4)) (gNm 8) wYes (wBin rMul (wVar 17) (wVar 8))) wNil))) wNil)))) (wC (.int 1))) (wLst wNil)))) (wRet (wC (.bl false))) wNext)
  (wSeq (wAsg (wDef 3 sp__law_drawn_kind (wCons (wVar 0) (wCons (wC (.int 5)) (wCons (wC (.int 1)) wNil)))) (gNm 18))
  (wSeq (wPar [19, 7] (wCons (wDef 2 sp_beside (wCons (wVar 2) (wCons (wVar 18) wNil))) (wCons (wDef 2 sp__law_drawn_row (wCons (wVar 0) (wCons (wVar 18) wNil))) wNil)))
  (wIfS (wNotT (wTru (wDef 2 sp__law_like (wCons (wTup (wCons (wDef 2 sp_worth (wCons (wVar 19) (wCons (wBin rAdd (wVar 4) (wVar 7)) wNil))) (wCons (wDef 2 sp_order (wCons (wVar 19) (wCons (wBin rAdd (wVar 10) (wVar 7)) wNil))) wNil))) (wCons (wTup (wCons (wDef 2 sp__law_added (wCons (wDef 2 sp__law_worth (wCons (wVar 2) (wCons (wVar 10) wNil))) (wCons (wDef 2 sp__law_worth (wCons (wVar 18) (wCons (wVar 7) wNil))) wNil))) (wCons (wDef 2 sp__law_order (wCons (wVar 19) (wCons (wBin rAdd (wVar 10) (wVar 7)) wNil))) wNil))) wNil))))) (wRet (wC (.bl false))) wNext)))))))))))))))))))))
  (wSeq (wAsg (wTup (wCons (wTup (wCons (wTup (wCons (wC (.int 4)) wNil)) (wCons (wTup (wCons (wTup (wCons (wTup (wCons (wC (.int 1)) (wCons (wC (.int 8)) wNil))) wNil)) wNil)) wNil))) (wCons (wTup (wCons (wTup (wCons (wC (.int 2)) (wCons (wC (.int 2)) wNil))) (wCons (wTup (wCons (wTup (wCons (wTup (wCons (wC (.int 1)) (wCons (wC (.int 2)) wNil))) wNil)) (wCons (wTup (wCons (wTup (wCons (wC (.int 1)) (wCons (wC (.int 2)) wNil))) (wCons (wTup (wCons (wC (.int 1)) (wCons (wC (.int 2)) wNil))) wNil))) wNil))) wNil))) wNil))) (gTp 2 (gsCons (gNm 20) (gsCons (gNm 21) gsNil))))
  (wSeq (wIfS (wOrT (wTb (wBin rNe (wLc [7] (wIter (wDef 1 sp_all_rows (wCons (wVar 20) wNil))) (gNm 7) wYes (wDef 2 sp_worth (wCons (wVar 20) (wCons (wVar 7) wNil)))) (wLst (wCons (wTup (wCons (wC (.int 0)) (wCons (wC (.int 1)) wNil))) (wCons (wTup (wCons (wC (.int 1)) (wCons (wC (.int 8)) wNil))) (wCons (wTup (wCons (wC (.int 1)) (wCons (wC (.int 2)) wNil))) (wCons (wTup (wCons (wC (.int 1)) (wCons (wC (.int 8)) wNil))) wNil))))))) (wTb (wBin rNe (wLc [7] (wIter (wDef 1 sp_all_rows (wCons (wVar 21) wNil))) (gNm 7) wYes (wDef 2 sp_worth (wCons (wVar 21) (wCons (wVar 7) wNil)))) (wLst (wCons (wTup (wCons (wC (.int 0)) (wCons (wC (.int 1)) wNil))) (wCons (wTup (wCons (wC (.int 1)) (wCons (wC (.int 2)) wNil))) (wCons (wTup (wCons (wC (.int 1)) (wCons (wC (.int 2)) wNil))) (wCons (wTup (wCons (wC (.int 1)) (wCons (wC (.int 2)) wNil))) wNil)))))))) (wRet (wC (.bl false))) wNext)
  (wSeq (wAsg (wTup (wCons (wTup (wCons (wC (.int 6)) wNil)) (wCons (wTup (wCons (wTup (wCons (wTup (wCons (wC (.int 1)) (wCons (wC (.int 12)) wNil))) wNil)) wNil)) wNil))) (gNm 22))
  (wSeq (wAsg (wTup (wCons (wDef 2 sp_worth (wCons (wVar 20) (wCons (wTup (wCons (wC (.int 3)) wNil)) wNil))) (wCons (wDef 3 sp_pairing (wCons (wVar 20) (wCons (wTup (wCons (wC (.int 1)) wNil)) (wCons (wTup (wCons (wC (.int 1)) wNil)) wNil)))) (wCons (wDef 2 sp_order (wCons (wVar 20) (wCons (wTup (wCons (wC (.int 2)) wNil)) wNil))) (wCons (wDef 2 sp_worth (wCons (wVar 22) (wCons (wTup (wCons (wUn rNeg (wC (.int 5))) wNil)) wNil))) (wCons (wDef 2 sp_order (wCons (wVar 22) (wCons (wTup (wCons (wC (.int 4)) wNil)) wNil))) (wCons (wDef 3 sp_pairing (wCons (wVar 22) (wCons (wTup (wCons (wC (.int 2)) wNil)) (wCons (wTup (wCons (wC (.int 5)) wNil)) wNil)))) (wCons (wDef 2 sp_order (wCons (wTup (wCons (wTup wNil) (wCons (wTup wNil) wNil))) (wCons (wTup wNil) wNil))) wNil)))))))) (gNm 11))
  (wRet (wDef 2 sp__law_like (wCons (wVar 11) (wCons (wTup (wCons (wTup (wCons (wC (.int 1)) (wCons (wC (.int 8)) wNil))) (wCons (wTup (wCons (wC (.int 1)) (wCons (wC (.int 4)) wNil))) (wCons (wC (.int 2)) (wCons (wTup (wCons (wC (.int 1)) (wCons (wC (.int 12)) wNil))) (wCons (wC (.int 3)) (wCons (wTup (wCons (wC (.int 2)) (wCons (wC (.int 3)) wNil))) (wCons (wC (.int 1)) wNil)))))))) wNil)))))))))
theorem wk__law_right {P : Program} {w : World} {K : PySem.W.Frag} {mg : Str → Option Value} {base : Heap} {k : Nat} {fa : Addr} {sp__law_drawn_kind sp__law_one sp__law_drawn_row sp__law_plain sp_order sp_worth sp_plain sp__law_like sp__law_worth sp__law_order sp_is_kind sp__law_pairing sp_pairing sp__law_times sp__law_put sp__law_added sp_beside sp_all_rows : DSp} (h : Nm K mg) (c__law_drawn_kind : Cl P w K mg base k st__law_drawn_kind "_law_drawn_kind" ps__law_drawn_kind sp__law_drawn_kind) (c__law_one : Cl P w K mg base k st__law_one "_law_one" ps__law_one sp__law_one) (c__law_drawn_row : Cl P w K mg base k st__law_drawn_row "_law_drawn_row" ps__law_drawn_row sp__law_drawn_row) (c__law_plain : Cl P w K mg base k st__law_plain "_law_plain" ps__law_plain sp__law_plain) (c_order : Cl P w K mg base k st_order "order" ps_order sp_order) (c_worth : Cl P w K mg base k st_worth "worth" ps_worth sp_worth) (c_plain : Cl P w K mg base k st_plain "plain" ps_plain sp_plain) (c__law_like : Cl P w K mg base k st__law_like "_law_like" ps__law_like sp__law_like) (c__law_worth : Cl P w K mg base k st__law_worth "_law_worth" ps__law_worth sp__law_worth) (c__law_order : Cl P w K mg base k st__law_order "_law_order" ps__law_order sp__law_order) (c_is_kind : Cl P w K mg base k st_is_kind "is_kind" ps_is_kind sp_is_kind) (c__law_pairing : Cl P w K mg base k st__law_pairing "_law_pairing" ps__law_pairing sp__law_pairing) (c_pairing : Cl P w K mg base k st_pairing "pairing" ps_pairing sp_pairing) (c__law_times : Cl P w K mg base k st__law_times "_law_times" ps__law_times sp__law_times) (c__law_put : Cl P w K mg base k st__law_put "_law_put" ps__law_put sp__law_put) (c__law_added : Cl P w K mg base k st__law_added "_law_added" ps__law_added sp__law_added) (c_beside : Cl P w K mg base k st_beside "beside" ps_beside sp_beside) (c_all_rows : Cl P w K mg base k st_all_rows "all_rows" ps_all_rows sp_all_rows)
    (cdv : Value) (A : Around) (outer : List Env) (s : Shared) (H : Hp) (E : XK) (hr : Room (k + 1) (A.deeper (envOfC "_law_right" (defScope st__law_right) s.heap.objs.size fa cdv))) :
    SndSs (Xf P w K mg base N__law_right "_law_right" st__law_right fa cdv A outer s H E) (defBody st__law_right) (w__law_right sp__law_drawn_kind sp__law_one sp__law_drawn_row sp__law_plain sp_order sp_worth sp_plain sp__law_like sp__law_worth sp__law_order sp_is_kind sp__law_pairing sp_pairing sp__law_times sp__law_put sp__law_added sp_beside sp_all_rows) := by
  have nd : N__law_right.Nodup := sc__law_right.nd
  exact (s_seq (forr (rng1 h.b_range (cons s_int s_nil)) (gn 1 nd) (s_seq (set 2 nd (call c__law_drawn_kind hr (Nat.le_succ _) (cons (v 0) (cons s_int (cons s_int s_nil)))))
  (s_seq (set 3 nd (call c__law_one hr (Nat.le_succ _) (cons (v 0) (cons (s_tup (cons s_int (cons s_int (cons (bop opd_pow s_int s_int) s_nil)))) s_nil))))
  (s_seq (asg (lc [("row", 7)] nd (rng1 h.b_range (cons s_int s_nil)) (fun _ _ _ _ _ => (pn 7 nd)) (tg_name (by decide)) (fun _ _ _ _ _ => ts0) (fun _ _ _ _ _ => (btc cd_tuple h.b_tuple (cons (lc [("number", 8), ("order_of", 9)] nd (zp h.b_zip (cons (call c__law_drawn_row hr (Nat.le_succ _) (cons (v 0) (cons (v 2) s_nil))) (cons (idx (v 2) s_int) s_nil))) (fun _ _ _ _ _ => (ptup 2 (pcons (pn 8 nd) (pcons (pn 9 nd) pnil)))) (tg_tup (tgs_cons (tg_name (by decide)) (tgs_cons (tg_name (by decide)) tgs_nil))) (fun _ _ _ _ _ => ts0) (fun _ _ _ _ _ => (bop opd_add (v 8) (bop opd_mul (v 3) (v 9))))) s_nil)))) (gtup 3 (gcons (gn 4 nd) (gcons (gn 5 nd) (gcons (gn 6 nd) s_gsnil)))))
  (s_seq (set 10 nd (call c__law_plain hr (Nat.le_succ _) (cons (v 2) (cons (v 4) s_nil))))
  (s_seq (set 11 nd (s_tup (cons (call c_plain hr (Nat.le_succ _) (cons (v 2) (cons (v 4) s_nil))) (cons (callK [1, 0] ["row", "kind"] c_plain hr (Nat.le_succ _) (s_kcons (v 4) (s_kcons (v 2) s_knil)) (fun _ _ _ _ _ _ us hl => match us, hl with | [_, _], _ => rfl)) (cons (call c_worth hr (Nat.le_succ _) (cons (v 2) (cons (v 4) s_nil))) (cons (callK [1, 0] ["row", "kind"] c_worth hr (Nat.le_succ _) (s_kcons (v 10) (s_kcons (v 2) s_knil)) (fun _ _ _ _ _ _ us hl => match us, hl with | [_, _], _ => rfl)) (cons (call c_order hr (Nat.le_succ _) (cons (v 2) (cons (v 4) s_nil))) (cons (callK [1, 0] ["row", "kind"] c_order hr (Nat.le_succ _) (s_kcons (v 10) (s_kcons (v 2) s_knil)) (fun _ _ _ _ _ _ us hl => match us, hl with | [_, _], _ => rfl)) s_nil))))))))
  (s_seq (s_ifS (ofW (s_orW (s_notT (tr (call c__law_like hr (Nat.le_succ _) (cons (v 11) (cons (bop opd_add (bop opd_add (s_tup (cons (v 10) (cons (v 10) s_nil))) (bop opd_mul (s_tup (cons (call c__law_worth hr (Nat.le_succ _) (cons (v 2) (cons (v 10) s_nil))) s_nil)) s_int)) (bop opd_mul (s_tup (cons (call c__law_order hr (Nat.le_succ _) (cons (v 2) (cons (v 10) s_nil))) s_nil)) s_int)) s_nil))))) (orT1 (cmpT opd_isnot (call c_is_kind hr (Nat.le_succ _) (cons (v 2) s_nil)) s_bl)))) (s_last (s_ret s_bl)) s_done)
  (s_seq (set 12 nd (call c__law_pairing hr (Nat.le_succ _) (cons (v 2) (cons (v 10) (cons (call c__law_plain hr (Nat.le_succ _) (cons (v 2) (cons (v 5) s_nil))) s_nil)))))
  (s_seq (s_ifS (s_notT (tr (call c__law_like hr (Nat.le_succ _) (cons (s_tup (cons (call c_pairing hr (Nat.le_succ _) (cons (v 2) (cons (v 4) (cons (v 5) s_nil)))) (cons (call c_pairing hr (Nat.le_succ _) (cons (v 2) (cons (v 5) (cons (v 4) s_nil)))) (cons (callK [2, 1, 0] ["other_row", "row", "kind"] c_pairing hr (Nat.le_succ _) (s_kcons (v 5) (s_kcons (v 10) (s_kcons (v 2) s_knil))) (fun _ _ _ _ _ _ us hl => match us, hl with | [_, _, _], _ => rfl)) s_nil)))) (cons (bop opd_mul (s_tup (cons (v 12) s_nil)) s_int) s_nil))))) (s_last (s_ret s_bl)) s_done)
  (s_seq (s_ifS (s_notT (tr (call c__law_like hr (Nat.le_succ _) (cons (call c_pairing hr (Nat.le_succ _) (cons (v 2) (cons (v 4) (cons (v 4) s_nil)))) (cons (call c__law_times hr (Nat.le_succ _) (cons (call c_worth hr (Nat.le_succ _) (cons (v 2) (cons (v 4) s_nil))) (cons s_int s_nil))) s_nil))))) (s_last (s_ret s_bl)) s_done)
  (s_seq (set 13 nd (call c__law_one hr (Nat.le_succ _) (cons (v 0) (cons (s_tup (cons s_int (cons s_int (cons (s_un und_neg s_int) (cons s_int (cons s_int (cons s_int (cons (bop opd_pow s_int s_int) s_nil)))))))) s_nil))))
  (s_seq (set 14 nd (btc cd_tuple h.b_tuple (cons (lc [("number", 8)] nd (s_iter (v 4)) (fun _ _ _ _ _ => (pn 8 nd)) (tg_name (by decide)) (fun _ _ _ _ _ => ts0) (fun _ _ _ _ _ => (bop opd_mul (v 13) (v 8)))) s_nil)))
  (s_seq (s_ifS (s_notT (tr (call c__law_like hr (Nat.le_succ _) (cons (s_tup (cons (call c_worth hr (Nat.le_succ _) (cons (v 2) (cons (v 14) s_nil))) (cons (call c_pairing hr (Nat.le_succ _) (cons (v 2) (cons (v 14) (cons (v 5) s_nil)))) s_nil))) (cons (s_tup (cons (call c__law_times hr (Nat.le_succ _) (cons (call c__law_worth hr (Nat.le_succ _) (cons (v 2) (cons (v 10) s_nil))) (cons (bop opd_mul (v 13) (v 13)) s_nil))) (cons (call c__law_times hr (Nat.le_succ _) (cons (v 12) (cons (v 13) s_nil))) s_nil))) s_nil))))) (s_last (s_ret s_bl)) s_done)
  (s_seq (set 15 nd (call c__law_put hr (Nat.le_succ _) (cons (v 2) (cons (v 5) (cons (v 6) (cons (v 13) s_nil))))))
  (s_seq (s_ifS (s_notT (tr (call c__law_like hr (Nat.le_succ _) (cons (call c_pairing hr (Nat.le_succ _) (cons (v 2) (cons (v 4) (cons (v 15) s_nil)))) (cons (call c__law_added hr (Nat.le_succ _) (cons (v 12) (cons (call c__law_times hr (Nat.le_succ _) (cons (call c_pairing hr (Nat.le_succ _) (cons (v 2) (cons (v 4) (cons (v 6) s_nil)))) (cons (v 13) s_nil))) s_nil))) s_nil))))) (s_last (s_ret s_bl)) s_done)
  (s_seq (s_ifS (s_notT (tr (call c__law_like hr (Nat.le_succ _) (cons (call c_worth hr (Nat.le_succ _) (cons (v 2) (cons (call c__law_put hr (Nat.le_succ _) (cons (v 2) (cons (v 4) (cons (v 5) (cons s_int s_nil))))) s_nil))) (cons (call c__law_added hr (Nat.le_succ _) (cons (call c__law_added hr (Nat.le_succ _) (cons (call c_worth hr (Nat.le_succ _) (cons (v 2) (cons (v 4) s_nil))) (cons (call c_worth hr (Nat.le_succ _) (cons (v 2) (cons (v 5) s_nil))) s_nil))) (cons (v 12) s_nil))) s_nil))))) (s_last (s_ret s_bl)) s_done)
  (s_seq (set 16 nd (call c_order hr (Nat.le_succ _) (cons (v 2) (cons (v 4) s_nil))))
  (s_seq (s_ifS (ofW (s_orW (tr (blt (cd_any rfl) h.b_any (cons (call c__law_plain hr (Nat.le_succ _) (cons (v 2) (cons (lc [("number", 8)] nd (s_iter (v 4)) (fun _ _ _ _ _ => (pn 8 nd)) (tg_name (by decide)) (fun _ _ _ _ _ => ts0) (fun _ _ _ _ _ => (bop opd_mul (v 16) (v 8)))) s_nil))) s_nil))) (orT1 (cmpT (opd_ne hr.units) (lc [("less", 17)] nd (rng2 h.b_range (cons s_int (cons (blt (cd_min2 rfl) h.b_min (cons (v 16) (cons s_int s_nil))) s_nil))) (fun _ _ _ _ _ => (pn 17 nd)) (tg_name (by decide)) (fun _ _ _ _ _ => (ts1 (s_notT (tr (blt (cd_any rfl) h.b_any (cons (call c__law_plain hr (Nat.le_succ _) (cons (v 2) (cons (lc [("number", 8)] nd (s_iter (v 4)) (fun _ _ _ _ _ => (pn 8 nd)) (tg_name (by decide)) (fun _ _ _ _ _ => ts0) (fun _ _ _ _ _ => (bop opd_mul (v 17) (v 8)))) s_nil))) s_nil)))))) (fun _ _ _ _ _ => s_int)) (s_lst s_nil))))) (s_last (s_ret s_bl)) s_done)
  (s_seq (set 18 nd (call c__law_drawn_kind hr (Nat.le_succ _) (cons (v 0) (cons s_int (cons s_int s_nil)))))
  (s_seq (par [("wide", 19), ("row", 7)] nd (cons (call c_beside hr (Nat.le_succ _) (cons (v 2) (cons (v 18) s_nil))) (cons (call c__law_drawn_row hr (Nat.le_succ _) (cons (v 0) (cons (v 18) s_nil))) s_nil)))
  (s_last (s_ifS (s_notT (tr (call c__law_like hr (Nat.le_succ _) (cons (s_tup (cons (call c_worth hr (Nat.le_succ _) (cons (v 19) (cons (bop opd_add (v 4) (v 7)) s_nil))) (cons (call c_order hr (Nat.le_succ _) (cons (v 19) (cons (bop opd_add (v 10) (v 7)) s_nil))) s_nil))) (cons (s_tup (cons (call c__law_added hr (Nat.le_succ _) (cons (call c__law_worth hr (Nat.le_succ _) (cons (v 2) (cons (v 10) s_nil))) (cons (call c__law_worth hr (Nat.le_succ _) (cons (v 18) (cons (v 7) s_nil))) s_nil))) (cons (call c__law_order hr (Nat.le_succ _) (cons (v 19) (cons (bop opd_add (v 10) (v 7)) s_nil))) s_nil))) s_nil))))) (s_last (s_ret s_bl)) s_done))))))))))))))))))))))
  (s_seq (asg (s_tup (cons (s_tup (cons (s_tup (cons s_int s_nil)) (cons (s_tup (cons (s_tup (cons (s_tup (cons s_int (cons s_int s_nil))) s_nil)) s_nil)) s_nil))) (cons (s_tup (cons (s_tup (cons s_int (cons s_int s_nil))) (cons (s_tup (cons (s_tup (cons (s_tup (cons s_int (cons s_int s_nil))) s_nil)) (cons (s_tup (cons (s_tup (cons s_int (cons s_int s_nil))) (cons (s_tup (cons s_int (cons s_int s_nil))) s_nil))) s_nil))) s_nil))) s_nil))) (gtup 2 (gcons (gn 20 nd) (gcons (gn 21 nd) s_gsnil))))
  (s_seq (s_ifS (ofW (s_orW (cmpT (opd_ne hr.units) (lc [("row", 7)] nd (s_iter (call c_all_rows hr (Nat.le_succ _) (cons (v 20) s_nil))) (fun _ _ _ _ _ => (pn 7 nd)) (tg_name (by decide)) (fun _ _ _ _ _ => ts0) (fun _ _ _ _ _ => (call c_worth hr (Nat.le_succ _) (cons (v 20) (cons (v 7) s_nil))))) (s_lst (cons (s_tup (cons s_int (cons s_int s_nil))) (cons (s_tup (cons s_int (cons s_int s_nil))) (cons (s_tup (cons s_int (cons s_int s_nil))) (cons (s_tup (cons s_int (cons s_int s_nil))) s_nil)))))) (orT1 (cmpT (opd_ne hr.units) (lc [("row", 7)] nd (s_iter (call c_all_rows hr (Nat.le_succ _) (cons (v 21) s_nil))) (fun _ _ _ _ _ => (pn 7 nd)) (tg_name (by decide)) (fun _ _ _ _ _ => ts0) (fun _ _ _ _ _ => (call c_worth hr (Nat.le_succ _) (cons (v 21) (cons (v 7) s_nil))))) (s_lst (cons (s_tup (cons s_int (cons s_int s_nil))) (cons (s_tup (cons s_int (cons s_int s_nil))) (cons (s_tup (cons s_int (cons s_int s_nil))) (cons (s_tup (cons s_int (cons s_int s_nil))) s_nil))))))))) (s_last (s_ret s_bl)) s_done)
  (s_seq (set 22 nd (s_tup (cons (s_tup (cons s_int s_nil)) (cons (s_tup (cons (s_tup (cons (s_tup (cons s_int (cons s_int s_nil))) s_nil)) s_nil)) s_nil))))
  (s_seq (set 11 nd (s_tup (cons (call c_worth hr (Nat.le_succ _) (cons (v 20) (cons (s_tup (cons s_int s_nil)) s_nil))) (cons (call c_pairing hr (Nat.le_succ _) (cons (v 20) (cons (s_tup (cons s_int s_nil)) (cons (s_tup (cons s_int s_nil)) s_nil)))) (cons (call c_order hr (Nat.le_succ _) (cons (v 20) (cons (s_tup (cons s_int s_nil)) s_nil))) (cons (call c_worth hr (Nat.le_succ _) (cons (v 22) (cons (s_tup (cons (s_un und_neg s_int) s_nil)) s_nil))) (cons (call c_order hr (Nat.le_succ _) (cons (v 22) (cons (s_tup (cons s_int s_nil)) s_nil))) (cons (call c_pairing hr (Nat.le_succ _) (cons (v 22) (cons (s_tup (cons s_int s_nil)) (cons (s_tup (cons s_int s_nil)) s_nil)))) (cons (call c_order hr (Nat.le_succ _) (cons (s_tup (cons (s_tup s_nil) (cons (s_tup s_nil) s_nil))) (cons (s_tup s_nil) s_nil))) s_nil)))))))))
  (s_last (s_ret (call c__law_like hr (Nat.le_succ _) (cons (v 11) (cons (s_tup (cons (s_tup (cons s_int (cons s_int s_nil))) (cons (s_tup (cons s_int (cons s_int s_nil))) (cons s_int (cons (s_tup (cons s_int (cons s_int s_nil))) (cons s_int (cons (s_tup (cons s_int (cons s_int s_nil))) (cons s_int s_nil)))))))) s_nil))))))))))
/-! law -/
def w_law (sp__law_right sp__law_tide : DSp) : WS :=
  (wRet (wBin (rInD true) (wC (.bl false)) (wLc [1] (wRange1 (wCons (wCall (on2 rMax2) (wCons (wC (.int 2)) (wCons (wCall (on2 rMin2) (wCons (wCall (on1 rLen) (wCons (wVar 0) wNil)) (wCons (wC (.int 3)) wNil))) wNil))) wNil)) (gNm 1) wYes (wDef 1 sp__law_right (wCons (wDef 2 sp__law_tide (wCons (wVar 0) (wCons (wVar 1) wNil))) wNil)))))
theorem wk_law {P : Program} {w : World} {K : PySem.W.Frag} {mg : Str → Option Value} {base : Heap} {k : Nat} {fa : Addr} {sp__law_right sp__law_tide : DSp} (h : Nm K mg) (c__law_right : Cl P w K mg base k st__law_right "_law_right" ps__law_right sp__law_right) (c__law_tide : Cl P w K mg base k st__law_tide "_law_tide" ps__law_tide sp__law_tide)
    (cdv : Value) (A : Around) (outer : List Env) (s : Shared) (H : Hp) (E : XK) (hr : Room (k + 1) (A.deeper (envOfC "law" (defScope st_law) s.heap.objs.size fa cdv))) :
    SndSs (Xf P w K mg base N_law "law" st_law fa cdv A outer s H E) (defBody st_law) (w_law sp__law_right sp__law_tide) := by
  have nd : N_law.Nodup := sc_law.nd
  exact (s_last (s_ret (cmp opd_notIn s_bl (lc [("lap", 1)] nd (rng1 h.b_range (cons (blt (cd_max2 rfl) h.b_max (cons s_int (cons (blt (cd_min2 rfl) h.b_min (cons (blt cd_len h.b_len (cons (v 0) s_nil)) (cons s_int s_nil))) s_nil))) s_nil)) (fun _ _ _ _ _ => (pn 1 nd)) (tg_name (by decide)) (fun _ _ _ _ _ => ts0) (fun _ _ _ _ _ => (call c__law_right hr (Nat.le_succ _) (cons (call c__law_tide hr (Nat.le_succ _) (cons (v 0) (cons (v 1) s_nil))) s_nil)))))))
end K11

set_option Elab.async false
set_option linter.all false
set_option maxRecDepth 100000
set_option maxHeartbeats 1000000
/-! DX, part p: the pure calculus: what a walk term does, by data. -/
namespace DX
open PySem PySem.Spec PyProof.Rows L2

/-- a tide: two whole numbers that are bounded -/
def Tid (st : Sto) (i : Nat) : Prop := ∃ a b : Int, st[i]? = some (.lst [.int a, .int b]) ∧ 0 ≤ a ∧ a < 9223372036854775783 ∧ 0 ≤ b ∧ b < 10 ^ 58
/-- the store grew; only the tide at t may have turned -/
structure Le (t : Option Nat) (st st' : Sto) : Prop where
  len : st.length ≤ st'.length
  eq : ∀ i, i < st.length → t ≠ some i → st'[i]? = st[i]?
  td : ∀ i, t = some i → Tid st i → Tid st' i
section
variable {t : Option Nat} {st st' st'' : Sto}
theorem Le.refl : Le t st st := ⟨Nat.le_refl _, fun _ _ _ => rfl, fun _ _ h => h⟩
theorem Le.trans (a : Le t st st') (b : Le t st' st'') : Le t st st'' :=
  ⟨Nat.le_trans a.len b.len, fun i h n => (b.eq i (Nat.lt_of_lt_of_le h a.len) n).trans (a.eq i h n), fun i e h => b.td i e (a.td i e h)⟩
theorem lt_of_get {i : Nat} {o : O} (h : st[i]? = some o) : i < st.length := (List.getElem?_eq_some_iff.mp h).1
theorem Le.get (a : Le t st st') {i : Nat} {o : O} (h : st[i]? = some o) (n : t ≠ some i) : st'[i]? = some o := (a.eq i (lt_of_get h) n).trans h
theorem Le.up (a : Le none st st') : Le t st st' := ⟨a.len, fun i h _ => a.eq i h nofun, fun i _ ⟨x, y, h, r⟩ => ⟨x, y, a.get h nofun, r⟩⟩
theorem Le.push {o : List O} : Le t st (st ++ o) := Le.up ⟨by simp, fun i h _ => List.getElem?_append_left h, nofun⟩
theorem Le.set {i : Nat} {a b : Int} (ha : 0 ≤ a ∧ a < 9223372036854775783 ∧ 0 ≤ b ∧ b < 10 ^ 58) (h : i < st.length) : Le (some i) st (st.set i (.lst [.int a, .int b])) :=
  ⟨by simp, fun j _ n => List.getElem?_set_ne (fun e => n (congrArg some e)), fun j e _ => by
    cases e
    exact ⟨a, b, List.getElem?_set_self h, ha⟩⟩
end

abbrev VP := D → Sto → Prop
def Mono (t : Option Nat) (V : VP) : Prop := ∀ d st st', V d st → Le t st st' → V d st'
/-- it is this -/
def Is (d : D) : VP := fun x _ => x = d
theorem mono_is {t : Option Nat} {d : D} : Mono t (Is d) := fun _ _ _ h _ => h
/-- some whole number, text .. with a property -/
def Sm (p : D → Prop) : VP := fun x _ => p x
theorem mono_sm {t : Option Nat} {p : D → Prop} : Mono t (Sm p) := fun _ _ _ h _ => h
/-- all but the entries below lo and the tide -/
def MonoLo (lo : Nat) (t : Option Nat) (V : VP) : Prop := ∀ d s s', V d s → (∀ i, lo ≤ i → i < s.length → t ≠ some i → s'[i]? = s[i]?) → V d s'
theorem MonoLo.mono {lo : Nat} {t : Option Nat} {V : VP} (m : MonoLo lo t V) : Mono t V := fun d s s' v l => m d s s' v fun i _ h n => l.eq i h n
theorem mlo_is {lo : Nat} {t : Option Nat} {d : D} : MonoLo lo t (Is d) := fun _ _ _ h _ => h
theorem mlo_sm {lo : Nat} {t : Option Nat} {p : D → Prop} : MonoLo lo t (Sm p) := fun _ _ _ h _ => h
inductive F2 (s : Sto) : List VP → List D → Prop
  | nil : F2 s [] []
  | cons {V : VP} {y : D} {Vs : List VP} {ys : List D} : V y s → F2 s Vs ys → F2 s (V :: Vs) (y :: ys)
theorem F2.len {s : Sto} : ∀ {Vs : List VP} {ys : List D}, F2 s Vs ys → Vs.length = ys.length
  | _, _, .nil => rfl
  | _, _, .cons _ r => congrArg Nat.succ r.len
theorem F2.get {s : Sto} : ∀ {Vs : List VP} {ys : List D} {n : Nat} {V : VP}, F2 s Vs ys → Vs[n]? = some V → ∃ y, ys[n]? = some y ∧ V y s
  | _, _, _, _, .nil, h => by simp at h
  | _, _, 0, _, .cons v _, h => by simp at h; subst h; exact ⟨_, rfl, v⟩
  | _, _, n + 1, _, .cons _ r, h => by
    obtain ⟨y, h1, h2⟩ := r.get (n := n) (by simpa using h)
    exact ⟨y, by simpa using h1, h2⟩
theorem F2.app {s : Sto} : ∀ {Vs Ws : List VP} {ys zs : List D}, F2 s Vs ys → F2 s Ws zs → F2 s (Vs ++ Ws) (ys ++ zs)
  | _, _, _, _, .nil, h => h
  | _, _, _, _, .cons v r, h => .cons v (r.app h)
theorem F2.imp {s s' : Sto} : ∀ {Vs : List VP} {ys : List D}, (∀ V ∈ Vs, ∀ d, V d s → V d s') → F2 s Vs ys → F2 s' Vs ys
  | _, _, _, .nil => .nil
  | _, _, h, .cons v r => .cons (h _ List.mem_cons_self _ v) (r.imp fun V hV => h V (List.mem_cons_of_mem _ hV))
/-- a list of the store with these items, at lo or above -/
def Ls (t : Option Nat) (lo : Nat) (xs : List D) : VP := fun d st => ∃ n, d = .ref n ∧ st[n]? = some (.lst xs) ∧ t ≠ some n ∧ lo ≤ n
theorem mlo_ls {t : Option Nat} {lo : Nat} {xs : List D} : MonoLo lo t (Ls t lo xs) := fun _ _ _ ⟨n, e, h, k, z⟩ l => ⟨n, e, (l n z (lt_of_get h) k).trans h, k, z⟩
theorem mono_ls {t : Option Nat} {lo : Nat} {xs : List D} : Mono t (Ls t lo xs) := mlo_ls.mono
/-- a list of the store whose items fit, one by one -/
def LsV (t : Option Nat) (lo : Nat) (Vs : List VP) : VP := fun d st => ∃ n ys, d = .ref n ∧ st[n]? = some (.lst ys) ∧ t ≠ some n ∧ lo ≤ n ∧ F2 st Vs ys
theorem f2_mono {t : Option Nat} {st st' : Sto} (l : Le t st st') {Vs : List VP} {ys : List D} (m : ∀ V ∈ Vs, Mono t V) (h : F2 st Vs ys) : F2 st' Vs ys := h.imp fun V hV d v => m V hV d st st' v l
theorem mlo_lsv {t : Option Nat} {lo : Nat} {Vs : List VP} (m : ∀ V ∈ Vs, MonoLo lo t V) : MonoLo lo t (LsV t lo Vs) := fun _ s s' ⟨n, ys, e, h, k, z, f⟩ l => ⟨n, ys, e, (l n z (lt_of_get h) k).trans h, k, z, f.imp fun V hV d v => m V hV d s s' v l⟩
theorem mono_lsv {t : Option Nat} {lo : Nat} {Vs : List VP} (m : ∀ V ∈ Vs, Mono t V) : Mono t (LsV t lo Vs) := fun _ _ _ ⟨n, ys, e, h, k, z, f⟩ l => ⟨n, ys, e, l.get h k, k, z, f2_mono l m f⟩
theorem f2_is {st : Sto} : ∀ {xs ys : List D}, F2 st (xs.map Is) ys → ys = xs
  | [], _, h => by cases h; rfl
  | x :: xs, _, h => by
    cases h with
    | cons h r => rw [show _ = x from h, f2_is r]
theorem f2_is' {st : Sto} : ∀ {xs : List D}, F2 st (xs.map Is) xs
  | [] => .nil
  | _ :: _ => .cons rfl f2_is'

section
variable {t : Option Nat} {env : Ev} {st : Sto}
def EvP (t : Option Nat) (st : Sto) (V : VP) (P : DP) : Prop := ∀ d st', Le t st st' → V d st' → P d st'
/-- it comes to such a value -/
def Evl (t : Option Nat) (w : W) (env : Ev) (st : Sto) (V : VP) : Prop := ∀ st0, Le t st st0 → ∀ P, EvP t st0 V P → w env st0 P
def EvB (t : Option Nat) (w : WT) (env : Ev) (st : Sto) (b : Bool) : Prop := ∀ st0, Le t st st0 → ∀ P : Bool → Sto → Prop, (∀ st', Le t st0 st' → P b st') → w env st0 P
def EvA (t : Option Nat) (w : WA) (env : Ev) (st : Sto) (Vs : List VP) : Prop := ∀ st0, Le t st st0 → ∀ P : List D → Sto → Prop, (∀ ds st', Le t st0 st' → F2 st' Vs ds → P ds st') → w env st0 P
def EvI (t : Option Nat) (w : WI) (env : Ev) (st : Sto) (xs : List D) : Prop := ∀ st0, Le t st st0 → ∀ P : DI → Sto → Prop, (∀ di st', Le t st0 st' → di.items = xs → (∀ s, Le t st' s → di.ok s) → P di st') → w env st0 P
theorem Evl.le {w : W} {V : VP} {st1 : Sto} (h : Evl t w env st V) (l : Le t st st1) : Evl t w env st1 V := fun st0 l0 => h st0 (l.trans l0)
theorem Evl.go {w : W} {V : VP} {P : DP} (h : Evl t w env st V) (p : EvP t st V P) : w env st P := h st .refl P p
theorem EvB.go {w : WT} {b : Bool} {P : Bool → Sto → Prop} (h : EvB t w env st b) (p : ∀ st', Le t st st' → P b st') : w env st P := h st .refl P p
theorem Evl.weak {w : W} {V V' : VP} (h : Evl t w env st V) (k : ∀ d s, Le t st s → V d s → V' d s) : Evl t w env st V' := fun st0 l0 P p => h st0 l0 P fun d st' l v => p d st' l (k d st' (l0.trans l) v)
theorem EvP.le {V : VP} {P : DP} {st1 : Sto} (p : EvP t st V P) (l : Le t st st1) : EvP t st1 V P := fun d st' l' => p d st' (l.trans l')
theorem EvP.done {V : VP} {P : DP} (p : EvP t st V P) {d : D} (h : V d st) : P d st := p d st .refl h

/-! names, constants -/
theorem e_var {i : Nat} {d : D} (h : env[i]? = some (some d)) : Evl t (wVar i) env st (Is d) := fun st0 _ P p => ⟨d, h, p.done rfl⟩
theorem e_varV {i : Nat} {d : D} {V : VP} (h : env[i]? = some (some d)) (m : Mono t V) (v : V d st) : Evl t (wVar i) env st V := fun st0 l P p => ⟨d, h, p.done (m _ _ _ v l)⟩
theorem e_c {d : D} : Evl t (wC d) env st (Is d) := fun st0 _ P p => p.done rfl
/-! operators -/
theorem e_binV {r : D → D → Sto → DP → Prop} {wa wb : W} {Va Vb V : VP} (ha : Evl t wa env st Va) (hb : Evl t wb env st Vb) (m : Mono t Va) (h : ∀ d e s, Le t st s → Va d s → Vb e s → ∀ P, EvP t s V P → r d e s P) : Evl t (wBin r wa wb) env st V := fun st0 l0 P p =>
  ha st0 l0 _ fun d st1 l1 v1 => hb st1 (l0.trans l1) _ fun e st2 l2 v2 => h d e st2 ((l0.trans l1).trans l2) (m _ _ _ v1 l2) v2 P (p.le (l1.trans l2))
theorem e_bin {r : D → D → Sto → DP → Prop} {wa wb : W} {a b c : D} (ha : Evl t wa env st (Is a)) (hb : Evl t wb env st (Is b)) (h : ∀ s P, P c s → r a b s P) : Evl t (wBin r wa wb) env st (Is c) :=
  e_binV ha hb mono_is fun d e s _ h1 h2 P p => by cases h1; cases h2; exact h s P (p.done rfl)
theorem e_un {r : D → Sto → DP → Prop} {wa : W} {a c : D} (ha : Evl t wa env st (Is a)) (h : ∀ s P, P c s → r a s P) : Evl t (wUn r wa) env st (Is c) := fun st0 l0 P p =>
  ha st0 l0 _ fun d st1 l1 v1 => by cases v1; exact h st1 P (p _ _ l1 rfl)
section
variable {wa wb wc : W} {i j k : Int}
theorem e_add (ha : Evl t wa env st (Is (.int i))) (hb : Evl t wb env st (Is (.int j))) : Evl t (wBin rAdd wa wb) env st (Is (.int (i + j))) := e_bin ha hb fun _ _ p => p
theorem e_sub (ha : Evl t wa env st (Is (.int i))) (hb : Evl t wb env st (Is (.int j))) : Evl t (wBin rSub wa wb) env st (Is (.int (i - j))) := e_bin ha hb fun _ _ p => ⟨trivial, p⟩
theorem e_mul (ha : Evl t wa env st (Is (.int i))) (hb : Evl t wb env st (Is (.int j))) (h : CMulX i j) : Evl t (wBin rMul wa wb) env st (Is (.int (i * j))) := e_bin ha hb fun _ _ p => ⟨h, p⟩
theorem e_div (ha : Evl t wa env st (Is (.int i))) (hb : Evl t wb env st (Is (.int j))) (h0 : 0 < j) (h : j < 2 ^ 9000) : Evl t (wBin rFdiv wa wb) env st (Is (.int (i / j))) := e_bin ha hb fun _ _ p =>
  ⟨cdv_small (by omega) (by omega), by simp only [Int.fdiv_eq_ediv_of_nonneg _ (show 0 ≤ j by omega)]; exact p⟩
theorem e_mod (ha : Evl t wa env st (Is (.int i))) (hb : Evl t wb env st (Is (.int j))) (h0 : 0 < j) : Evl t (wBin rMod wa wb) env st (Is (.int (i % j))) := e_bin ha hb fun _ _ p =>
  ⟨by omega, by simp only [Int.fmod_eq_emod_of_nonneg _ (show 0 ≤ j by omega)]; exact p⟩
theorem e_neg (ha : Evl t wa env st (Is (.int i))) : Evl t (wUn rNeg wa) env st (Is (.int (-i))) := e_un ha fun _ _ p => p
theorem e_lt (ha : Evl t wa env st (Is (.int i))) (hb : Evl t wb env st (Is (.int j))) : Evl t (wBin rLt wa wb) env st (Is (.bl (decide (i < j)))) := e_bin ha hb fun _ _ p => ⟨trivial, p⟩
theorem e_le (ha : Evl t wa env st (Is (.int i))) (hb : Evl t wb env st (Is (.int j))) : Evl t (wBin rLe wa wb) env st (Is (.bl (decide (i ≤ j)))) := e_bin ha hb fun _ _ p => ⟨trivial, p⟩
theorem e_gt (ha : Evl t wa env st (Is (.int i))) (hb : Evl t wb env st (Is (.int j))) : Evl t (wBin rGt wa wb) env st (Is (.bl (decide (j < i)))) := e_bin ha hb fun _ _ p => ⟨trivial, p⟩
theorem e_ge (ha : Evl t wa env st (Is (.int i))) (hb : Evl t wb env st (Is (.int j))) : Evl t (wBin rGe wa wb) env st (Is (.bl (decide (j ≤ i)))) := e_bin ha hb fun _ _ p => ⟨trivial, p⟩
theorem e_eq (ha : Evl t wa env st (Is (.int i))) (hb : Evl t wb env st (Is (.int j))) : Evl t (wBin rEq wa wb) env st (Is (.bl (decide (i = j)))) := e_bin ha hb fun _ _ p => p
theorem e_ne (ha : Evl t wa env st (Is (.int i))) (hb : Evl t wb env st (Is (.int j))) : Evl t (wBin rNe wa wb) env st (Is (.bl (!decide (i = j)))) := e_bin ha hb fun _ _ p => p
theorem e_addT {xs ys : List D} (ha : Evl t wa env st (Is (.tup xs))) (hb : Evl t wb env st (Is (.tup ys))) (h : xs.length + ys.length ≤ 1000) : Evl t (wBin rAdd wa wb) env st (Is (.tup (xs ++ ys))) := e_bin ha hb fun _ _ p => ⟨Nat.le_trans h (by decide), p⟩
theorem e_idx {xs : List D} {n : Nat} {d : D} (ha : Evl t wa env st (Is (.tup xs))) (hb : Evl t wb env st (Is (.int n))) (h : xs[n]? = some d) : Evl t (wBin rIdx wa wb) env st (Is d) := e_bin ha hb fun _ _ p =>
  ⟨xs, d, rfl, by
    have hl := (List.getElem?_eq_some_iff.mp h).1
    unfold atI ixN
    rw [if_pos (by omega), if_pos (by omega)]
    simpa using h, p⟩
theorem e_idxV {lo : Nat} {Vs : List VP} {V : VP} {n : Nat} (ha : Evl t wa env st (LsV t lo Vs)) (hb : Evl t wb env st (Is (.int n))) (m : ∀ V ∈ Vs, Mono t V) (h : Vs[n]? = some V) : Evl t (wBin rIdx wa wb) env st V :=
  e_binV ha hb (mono_lsv m) fun d e s l ⟨k, ys, e1, h1, _, _, f⟩ h2 P p => by
    cases h2; subst e1
    obtain ⟨y, hy, vy⟩ := f.get h
    refine ⟨ys, y, by unfold itemsD; dsimp only; rw [h1], ?_, p.done vy⟩
    have hl := (List.getElem?_eq_some_iff.mp hy).1
    unfold atI ixN
    rw [if_pos (by omega), if_pos (by omega)]
    simpa using hy
theorem e_idxL {lo : Nat} {xs : List D} {d : D} {n : Nat} (ha : Evl t wa env st (Ls t lo xs)) (hb : Evl t wb env st (Is (.int n))) (h : xs[n]? = some d) : Evl t (wBin rIdx wa wb) env st (Is d) :=
  e_binV ha hb mono_ls fun d' e s l ⟨k, e1, h1, _⟩ h2 P p => by
    cases h2; subst e1
    refine ⟨xs, d, by unfold itemsD; dsimp only; rw [h1], ?_, p.done rfl⟩
    have hl := (List.getElem?_eq_some_iff.mp h).1
    unfold atI ixN
    rw [if_pos (by omega), if_pos (by omega)]
    simpa using h
end
/-! tests -/
theorem b_tb {w : W} {b : Bool} (h : Evl t w env st (Is (.bl b))) : EvB t (wTb w) env st b := fun st0 l0 P p => h st0 l0 _ fun d st1 l1 v1 => by cases v1; exact ⟨b, rfl, p st1 l1⟩
theorem b_tru {w : W} {d : D} {b : Bool} (h : Evl t w env st (Is d)) (k : ∀ s, tru d s b) : EvB t (wTru w) env st b := fun st0 l0 P p => h st0 l0 _ fun d st1 l1 v1 => by cases v1; exact ⟨b, k st1, p st1 l1⟩
theorem b_bl {w : W} {b : Bool} (h : Evl t w env st (Is (.bl b))) : EvB t (wTru w) env st b := b_tru h fun _ => rfl
theorem b_not {w : WT} {b : Bool} (h : EvB t w env st b) : EvB t (wNotT w) env st (!b) := fun st0 l0 P p => h st0 l0 _ p
theorem b_and {w u : WT} {b c : Bool} (h : EvB t w env st b) (k : b = true → EvB t u env st c) : EvB t (wAndT w u) env st (b && c) := fun st0 l0 P p => h st0 l0 _ fun st1 l1 => by
  cases b with
  | false => exact p st1 l1
  | true => exact k rfl st1 (l0.trans l1) _ fun st2 l2 => p st2 (l1.trans l2)
theorem b_or {w u : WT} {b c : Bool} (h : EvB t w env st b) (k : b = false → EvB t u env st c) : EvB t (wOrT w u) env st (b || c) := fun st0 l0 P p => h st0 l0 _ fun st1 l1 => by
  cases b with
  | true => exact p st1 l1
  | false => exact k rfl st1 (l0.trans l1) _ fun st2 l2 => p st2 (l1.trans l2)
theorem e_and {w u : W} {b c : Bool} (h : Evl t w env st (Is (.bl b))) (k : b = true → Evl t u env st (Is (.bl c))) : Evl t (wAnd w u) env st (Is (.bl (b && c))) := fun st0 l0 P p => h st0 l0 _ fun d st1 l1 v1 => by
  cases v1
  refine ⟨b, rfl, ?_⟩
  cases b with
  | false => exact p _ st1 l1 rfl
  | true => exact k rfl st1 (l0.trans l1) _ fun d st2 l2 v => p d st2 (l1.trans l2) v
theorem e_or {w u : W} {b c : Bool} (h : Evl t w env st (Is (.bl b))) (k : b = false → Evl t u env st (Is (.bl c))) : Evl t (wOr w u) env st (Is (.bl (b || c))) := fun st0 l0 P p => h st0 l0 _ fun d st1 l1 v1 => by
  cases v1
  refine ⟨b, rfl, ?_⟩
  cases b with
  | true => exact p _ st1 l1 rfl
  | false => exact k rfl st1 (l0.trans l1) _ fun d st2 l2 v => p d st2 (l1.trans l2) v
theorem e_not {w : W} {b : Bool} (h : Evl t w env st (Is (.bl b))) : Evl t (wNot w) env st (Is (.bl (!b))) := fun st0 l0 P p => h st0 l0 _ fun d st1 l1 v1 => by cases v1; exact ⟨b, rfl, p _ st1 l1 rfl⟩
theorem e_if {c : WT} {u w : W} {b : Bool} {V : VP} (h : EvB t c env st b) (h1 : b = true → Evl t u env st V) (h2 : b = false → Evl t w env st V) : Evl t (wIf c u w) env st V := fun st0 l0 P p => h st0 l0 _ fun st1 l1 => by
  cases b with
  | true => exact h1 rfl st1 (l0.trans l1) _ (p.le l1)
  | false => exact h2 rfl st1 (l0.trans l1) _ (p.le l1)
theorem e_chain {r r' : D → D → Sto → DP → Prop} {wa wb wc : W} {a b c : D} {k k' : Bool} (ha : Evl t wa env st (Is a)) (hb : Evl t wb env st (Is b)) (hc : Evl t wc env st (Is c)) (h : ∀ s P, P (.bl k) s → r a b s P) (h' : ∀ s P, P (.bl k') s → r' b c s P) :
    Evl t (wChain r r' wa wb wc) env st (Is (.bl (k && k'))) := fun st0 l0 P p => ha st0 l0 _ fun d st1 l1 v1 => hb st1 (l0.trans l1) _ fun e st2 l2 v2 => by
  cases v1; cases v2
  refine h st2 _ ⟨k, rfl, ?_⟩
  cases k with
  | false => exact p _ st2 (l1.trans l2) rfl
  | true => exact hc st2 ((l0.trans l1).trans l2) _ fun g st3 l3 v3 => by cases v3; exact h' st3 _ (p _ st3 ((l1.trans l2).trans l3) rfl)
/-! argument lists -/
theorem a_nil : EvA t wNil env st [] := fun st0 l0 P p => p _ _ .refl .nil
theorem a_cons {w : W} {r : WA} {V : VP} {Vs : List VP} (h : Evl t w env st V) (hr : EvA t r env st Vs) (m : Mono t V) : EvA t (wCons w r) env st (V :: Vs) := fun st0 l0 P p =>
  h st0 l0 _ fun d st1 l1 v1 => hr st1 (l0.trans l1) _ fun ds st2 l2 f => p _ st2 (l1.trans l2) (.cons (m _ _ _ v1 l2) f)
theorem a_is {w : W} {r : WA} {d : D} {Vs : List VP} (h : Evl t w env st (Is d)) (hr : EvA t r env st Vs) : EvA t (wCons w r) env st (Is d :: Vs) := a_cons h hr mono_is
theorem a_list {w : WA} {ds : List D} (h : EvA t w env st (ds.map Is)) {st0 : Sto} (l0 : Le t st st0) {P : List D → Sto → Prop} (p : ∀ st', Le t st0 st' → P ds st') : w env st0 P := h st0 l0 _ fun ds' st1 l1 f => by rw [f2_is f]; exact p st1 l1
theorem e_tup {w : WA} {ds : List D} (h : EvA t w env st (ds.map Is)) (hl : ds.length ≤ 1000) : Evl t (wTup w) env st (Is (.tup ds)) := fun st0 l0 P p => a_list h l0 fun st1 l1 => ⟨Nat.le_trans hl (by decide), p _ st1 l1 rfl⟩
theorem e_lst {w : WA} {ds : List D} (ht : ∀ i, t = some i → i < st.length) (h : EvA t w env st (ds.map Is)) (hl : ds.length ≤ 1000) : Evl t (wLst w) env st (Ls t st.length ds) := fun st0 l0 P p => a_list h l0 fun st1 l1 =>
  ⟨Nat.le_trans hl (by decide), p _ _ (l1.trans .push) ⟨_, rfl, by simp, fun e => by have := ht _ e; have := (l0.trans l1).len; omega, (l0.trans l1).len⟩⟩
theorem a_star {w : W} {r : WA} {xs : List D} {Vs : List VP} (h : Evl t w env st (Is (.tup xs))) (hr : EvA t r env st Vs) : EvA t (wStar w r) env st (xs.map Is ++ Vs) := fun st0 l0 P p =>
  h st0 l0 _ fun d st1 l1 v1 => by
    cases v1
    refine ⟨xs, rfl, hr st1 (l0.trans l1) _ fun ds st2 l2 f => p _ st2 (l1.trans l2) (f2_is'.app f)⟩
/-! calls of builtins -/
theorem e_call1 {r : D → Sto → DP → Prop} {w : W} {V V' : VP} (h : Evl t w env st V) (m : Mono t V) (k : ∀ d s, Le t st s → V d s → ∀ P, EvP t s V' P → r d s P) : Evl t (wCall (on1 r) (wCons w wNil)) env st V' := fun st0 l0 P p =>
  h st0 l0 _ fun d st1 l1 v1 => k d st1 (l0.trans l1) v1 P (p.le l1)
theorem e_call1i {r : D → Sto → DP → Prop} {w : W} {a c : D} (h : Evl t w env st (Is a)) (k : ∀ s P, P c s → r a s P) : Evl t (wCall (on1 r) (wCons w wNil)) env st (Is c) := e_call1 h mono_is fun d s _ v P p => by cases v; exact k s P (p.done rfl)
theorem e_call2i {r : D → D → Sto → DP → Prop} {w u : W} {a b c : D} (h : Evl t w env st (Is a)) (hu : Evl t u env st (Is b)) (k : ∀ s P, P c s → r a b s P) : Evl t (wCall (on2 r) (wCons w (wCons u wNil))) env st (Is c) := fun st0 l0 P p =>
  h st0 l0 _ fun d st1 l1 v1 => hu st1 (l0.trans l1) _ fun e st2 l2 v2 => by cases v1; cases v2; exact k st2 P (p _ _ (l1.trans l2) rfl)
section
variable {w u : W} {i j : Int} {xs : List D}
theorem e_abs (h : Evl t w env st (Is (.int i))) : Evl t (wCall (on1 rAbs) (wCons w wNil)) env st (Is (.int (i.natAbs : Int))) := e_call1i h fun s P p => by
  unfold rAbs
  simpa only [show (if i < 0 then -i else i) = (i.natAbs : Int) by split <;> omega] using p
theorem e_int (h : Evl t w env st (Is (.int i))) : Evl t (wCall (on1 rInt) (wCons w wNil)) env st (Is (.int i)) := e_call1i h fun s P p => p
theorem e_lenT (h : Evl t w env st (Is (.tup xs))) : Evl t (wCall (on1 rLen) (wCons w wNil)) env st (Is (.int xs.length)) := e_call1i h fun s P p => ⟨xs, rfl, p⟩
theorem items_ls {d : D} {s : Sto} {lo : Nat} (h : Ls t lo xs d s) : itemsD s d = some xs := by
  obtain ⟨n, rfl, h, _⟩ := h
  unfold itemsD; dsimp only; rw [h]
theorem e_lenL {lo : Nat} (h : Evl t w env st (Ls t lo xs)) : Evl t (wCall (on1 rLen) (wCons w wNil)) env st (Is (.int xs.length)) := e_call1 h mono_ls fun d s _ v P p => by
  have e := items_ls v
  obtain ⟨n, rfl, _⟩ := v
  exact ⟨xs, e, p.done rfl⟩
theorem e_tupL {lo : Nat} (h : Evl t w env st (Ls t lo xs)) : Evl t (wCall (on1 rTupleOf) (wCons w wNil)) env st (Is (.tup xs)) := e_call1 h mono_ls fun d s _ v P p => ⟨xs, items_ls v, p.done rfl⟩
theorem truFs_bl : ∀ bs : List Bool, truFs (bs.map D.bl) = some bs
  | [] => rfl
  | b :: bs => by simp [truFs, truFs_bl bs, truF]
theorem truFs_int : ∀ bs : List Int, truFs (bs.map D.int) = some (bs.map fun i => !decide (i = 0))
  | [] => rfl
  | b :: bs => by simp [truFs, truFs_int bs, truF]
theorem e_all {lo : Nat} {bs : List Bool} (h : Evl t w env st (Ls t lo (bs.map D.bl))) : Evl t (wCall (on1 (rAnyD fun bs => bs.all id)) (wCons w wNil)) env st (Is (.bl (bs.all id))) := e_call1 h mono_ls fun d s _ v P p => ⟨_, bs, items_ls v, truFs_bl bs, p.done rfl⟩
theorem e_anyT {ns : List Int} (h : Evl t w env st (Is (.tup (ns.map D.int)))) : Evl t (wCall (on1 (rAnyD fun bs => bs.any id)) (wCons w wNil)) env st (Is (.bl (ns.any fun i => !decide (i = 0)))) := e_call1 h mono_is fun d s _ v P p => by
  cases v
  refine ⟨_, _, rfl, truFs_int ns, p.done ?_⟩
  show D.bl ((ns.map fun i => !decide (i = 0)).any id) = D.bl _
  rw [List.any_map]; rfl
theorem e_sumL {lo : Nat} {ns : List Int} (h : Evl t w env st (Ls t lo (ns.map D.int))) : Evl t (wCall (on1 rSumD) (wCons w wNil)) env st (Is (.int ns.sum)) := e_call1 h mono_ls fun d s _ v P p => by
  obtain ⟨n, rfl, h, _⟩ := v
  exact ⟨ns, by unfold listD; dsimp only; rw [h], p.done rfl⟩
theorem e_max2 (h : Evl t w env st (Is (.int i))) (hu : Evl t u env st (Is (.int j))) : Evl t (wCall (on2 rMax2) (wCons w (wCons u wNil))) env st (Is (.int (max i j))) := e_call2i h hu fun s P p => ⟨trivial, p⟩
theorem e_min2 (h : Evl t w env st (Is (.int i))) (hu : Evl t u env st (Is (.int j))) : Evl t (wCall (on2 rMin2) (wCons w (wCons u wNil))) env st (Is (.int (min i j))) := e_call2i h hu fun s P p => ⟨trivial, p⟩
theorem e_isi {a : D} {c tn : String} {b : Bool} (h : Evl t w env st (Is a)) (ht : ∀ s, tyD s a = some tn) (hk : kitB tn c = some b) : Evl t (wCall (on2 rIsiD) (wCons w (wCons (wC (.ty c)) wNil))) env st (Is (.bl b)) := e_call2i h e_c fun s P p => ⟨tn, b, ht s, hk, p⟩
theorem e_bits (h : Evl t w env st (Is (.int i))) : Evl t (wBits w) env st (Is (.int (Builtin.Int.intBits i : Nat))) := fun st0 l0 P p => h st0 l0 _ fun d st1 l1 v1 => ⟨i, v1, p _ _ l1 rfl⟩
end
/-! calls of defs: a promise -/
/-- sp gives V of such arguments -/
def Pr (t : Option Nat) (sp : DSp) (Vs : List VP) (st : Sto) (V : VP) : Prop := ∀ ds s, Le t st s → F2 s Vs ds → ∀ P, EvP t s V P → sp ds s P
theorem e_def {n : Nat} {sp : DSp} {wa : WA} {Vs : List VP} {V : VP} (h : EvA t wa env st Vs) (hn : Vs.length = n) (k : Pr t sp Vs st V) : Evl t (wDef n sp wa) env st V := fun st0 l0 P p =>
  h st0 l0 _ fun ds st1 l1 f => ⟨f.len.symm.trans hn, k ds st1 (l0.trans l1) f P (p.le l1)⟩
theorem e_def1 {sp : DSp} {w : W} {a : D} {V : VP} (h : Evl t w env st (Is a)) (k : ∀ s, Le t st s → ∀ P, EvP t s V P → sp [a] s P) : Evl t (wDef 1 sp (wCons w wNil)) env st V :=
  e_def (a_is h a_nil) rfl fun ds s l f P p => by rw [f2_is (xs := [a]) f]; exact k s l P p
theorem e_def2 {sp : DSp} {w u : W} {a b : D} {V : VP} (h : Evl t w env st (Is a)) (hu : Evl t u env st (Is b)) (k : ∀ s, Le t st s → ∀ P, EvP t s V P → sp [a, b] s P) : Evl t (wDef 2 sp (wCons w (wCons u wNil))) env st V :=
  e_def (a_is h (a_is hu a_nil)) rfl fun ds s l f P p => by rw [f2_is (xs := [a, b]) f]; exact k s l P p
theorem e_def3 {sp : DSp} {w u v : W} {a b c : D} {V : VP} (h : Evl t w env st (Is a)) (hu : Evl t u env st (Is b)) (hv : Evl t v env st (Is c)) (k : ∀ s, Le t st s → ∀ P, EvP t s V P → sp [a, b, c] s P) : Evl t (wDef 3 sp (wCons w (wCons u (wCons v wNil)))) env st V :=
  e_def (a_is h (a_is hu (a_is hv a_nil))) rfl fun ds s l f P p => by rw [f2_is (xs := [a, b, c]) f]; exact k s l P p
theorem e_defK {n : Nat} {is : List Nat} {sp : DSp} {wa : WA} {ds : List D} {V : VP} (h : EvA t wa env st (ds.map Is)) (hn : ds.length = n) (hp : (permL is ds).length = n) (k : ∀ s, Le t st s → ∀ P, EvP t s V P → sp (permL is ds) s P) : Evl t (wDefK n is sp wa) env st V := fun st0 l0 P p =>
  a_list h l0 fun st1 l1 => ⟨hn, hp, k st1 (l0.trans l1) P (p.le l1)⟩
/-! iterables -/
theorem i_tup {w : W} {xs : List D} (h : Evl t w env st (Is (.tup xs))) : EvI t (wIter w) env st xs := fun st0 l0 P p => h st0 l0 _ fun d st1 l1 v => by cases v; exact ⟨_, rfl, p _ st1 l1 rfl fun _ _ => trivial⟩
theorem di_ls {d : D} {s : Sto} {xs : List D} {lo : Nat} (h : Ls t lo xs d s) : ∃ di, diOf s d = some di ∧ di.items = xs ∧ ∀ s', Le t s s' → di.ok s' := by
  obtain ⟨n, rfl, h, k, _⟩ := h
  exact ⟨⟨xs, fun s' => s'[n]? = some (.lst xs)⟩, by unfold diOf; dsimp only; rw [h], rfl, fun s' l => l.get h k⟩
theorem i_ls {lo : Nat} {w : W} {xs : List D} (h : Evl t w env st (Ls t lo xs)) : EvI t (wIter w) env st xs := fun st0 l0 P p => h st0 l0 _ fun d st1 l1 v => by
  obtain ⟨di, h1, h2, h3⟩ := di_ls v
  exact ⟨di, h1, p _ st1 l1 h2 h3⟩
theorem i_rng1 {w : W} {n : Nat} (h : Evl t w env st (Is (.int n))) (hn : n < 2 ^ 62) : EvI t (wRange1 (wCons w wNil)) env st ((List.range n).map fun (i : Nat) => D.int (i : Int)) := fun st0 l0 P p => h st0 l0 _ fun d st1 l1 v => by
  cases v
  refine ⟨n, rfl, by omega, p _ st1 l1 ?_ fun _ _ => trivial⟩
  show rangeItems 0 ((n : Int)).toNat 1 = _
  unfold rangeItems
  rw [Int.toNat_natCast]
  exact List.map_congr_left fun i _ => by simp
theorem i_rng2 {w u : W} {i j : Int} (h : Evl t w env st (Is (.int i))) (hu : Evl t u env st (Is (.int j))) (hb : -(2 ^ 62) ≤ i ∧ i < 2 ^ 62 ∧ -(2 ^ 62) ≤ j ∧ j < 2 ^ 62) : EvI t (wRange2 (wCons w (wCons u wNil))) env st (rangeItems i (j - i).toNat 1) := fun st0 l0 P p =>
  h st0 l0 _ fun d st1 l1 v => hu st1 (l0.trans l1) _ fun e st2 l2 v2 => by
    cases v; cases v2
    exact ⟨i, j, rfl, hb, p _ st2 (l1.trans l2) rfl fun _ _ => trivial⟩
/-- two sequences, for zip: tuples, lists -/
def Sq (t : Option Nat) (xs : List D) : VP := fun d s => d = .tup xs ∨ Ls t 0 xs d s
theorem mono_sq {xs : List D} : Mono t (Sq t xs) := fun d s s' h l => h.imp id fun h => mono_ls d s s' h l
theorem di_sq {d : D} {s : Sto} {xs : List D} (h : Sq t xs d s) : (∃ di, diOf s d = some di ∧ di.items = xs ∧ ∀ s', Le t s s' → di.ok s') ∧ ∀ z, d ≠ .str z := by
  rcases h with rfl | h
  · exact ⟨⟨_, rfl, rfl, fun _ _ => trivial⟩, nofun⟩
  · refine ⟨di_ls h, ?_⟩
    obtain ⟨n, rfl, _⟩ := h
    exact nofun
theorem Evl.sqT {w : W} {xs : List D} (h : Evl t w env st (Is (.tup xs))) : Evl t w env st (Sq t xs) := h.weak fun _ _ _ e => .inl e
theorem Evl.sqL {w : W} {xs : List D} {lo : Nat} (h : Evl t w env st (Ls t lo xs)) : Evl t w env st (Sq t xs) := h.weak fun _ _ _ ⟨n, e, h, k, _⟩ => .inr ⟨n, e, h, k, Nat.zero_le _⟩
theorem i_zip {w u : W} {xs ys : List D} (h : Evl t w env st (Sq t xs)) (hu : Evl t u env st (Sq t ys)) : EvI t (wZip (wCons w (wCons u wNil))) env st (zipD xs ys) := fun st0 l0 P p =>
  h st0 l0 _ fun d st1 l1 v => hu st1 (l0.trans l1) _ fun e st2 l2 v2 => by
    obtain ⟨⟨di, a1, a2, a3⟩, n1⟩ := di_sq (mono_sq _ _ _ v l2)
    obtain ⟨⟨dj, b1, b2, b3⟩, n2⟩ := di_sq v2
    exact ⟨d, e, di, dj, rfl, a1, b1, ⟨n1, n2⟩, p _ st2 (l1.trans l2) (by rw [a2, b2]) fun s l => ⟨a3 s l, b3 s l⟩⟩
theorem i_enum {w : W} {xs : List D} (h : Evl t w env st (Sq t xs)) : EvI t (wEnum (wCons w wNil)) env st (enumD 0 xs) := fun st0 l0 P p => h st0 l0 _ fun d st1 l1 v => by
  obtain ⟨⟨di, a1, a2, a3⟩, n1⟩ := di_sq v
  exact ⟨d, di, rfl, a1, n1, p _ st1 l1 (by rw [a2]) a3⟩
end

/-! ### comprehensions -/
/-- the store grew; only the list n and the tide may have turned -/
structure LeN (n : Nat) (t : Option Nat) (st s : Sto) : Prop where
  len : st.length ≤ s.length
  eq : ∀ i, i < st.length → i ≠ n → t ≠ some i → s[i]? = st[i]?
  td : ∀ i, t = some i → Tid st i → Tid s i
section
variable {t : Option Nat} {env : Ev} {st st1 st2 : Sto} {n : Nat}
theorem LeN.refl : LeN n t st st := ⟨Nat.le_refl _, fun _ _ _ _ => rfl, fun _ _ h => h⟩
theorem LeN.trans (a : LeN n t st st1) (b : LeN n t st1 st2) : LeN n t st st2 := ⟨Nat.le_trans a.len b.len, fun i h h1 h2 => (b.eq i (Nat.lt_of_lt_of_le h a.len) h1 h2).trans (a.eq i h h1 h2), fun i e h => b.td i e (a.td i e h)⟩
theorem Le.toN (a : Le t st st1) : LeN n t st st1 := ⟨a.len, fun i h _ h2 => a.eq i h h2, a.td⟩
theorem LeN.set {xs : List D} (hn : t ≠ some n) : LeN n t st (st.set n (.lst xs)) := ⟨by simp, fun i _ h _ => List.getElem?_set_ne (Ne.symm h), fun i e ⟨p, q, h1, h2⟩ => ⟨p, q, by rw [List.getElem?_set_ne (fun z => hn (by rw [e, z]))]; exact h1, h2⟩⟩
/-- the items that pass, each with what its element is -/
theorem loop_lc {di : DI} {g : WG} {wt : WT} {we : W} {Q : Sto → Prop} (b : D → Bool) (V : D → VP) (m : ∀ x, MonoLo (n + 1) t (V x)) (hn : t ≠ some n) :
    ∀ (xs : List D) (acc : List D) (Vs : List VP) (st : Sto), (∀ V ∈ Vs, MonoLo (n + 1) t V) → st[n]? = some (.lst acc) → F2 st Vs acc → acc.length + xs.length ≤ 100000 →
      (∀ s, LeN n t st s → di.ok s) →
      (∀ x ∈ xs, ∀ s, LeN n t st s → ∀ P : Ev → Sto → Prop, (∀ env', EvB t wt env' s (b x) → (b x = true → Evl t we env' s (V x)) → P env' s) → g x env s P) →
      (∀ ys s, s[n]? = some (.lst ys) → F2 s (Vs ++ (xs.filter b).map V) ys → LeN n t st s → Q s) →
      loopC n di g wt we env Q xs st := by
  intro xs
  induction xs with
  | nil => exact fun acc Vs st mV hacc f _ ok _ fin => ⟨ok st .refl, fin acc st hacc (by simpa using f) .refl⟩
  | cons x xs ih =>
    intro acc Vs st mV hacc f hl ok hx fin
    refine ⟨ok st .refl, hx x List.mem_cons_self st .refl _ fun env' hb he => hb st .refl _ fun st1 l1 => ?_⟩
    have keep : ∀ {s : Sto}, Le t st s → F2 s Vs acc := fun l => f.imp fun V hV d v => (mV V hV).mono d st _ v l
    cases hbx : b x with
    | false =>
      simp only [Bool.false_eq_true, if_false]
      refine ih acc Vs st1 mV (l1.get hacc hn) (keep l1) (by simp at hl ⊢; omega) ?_ ?_ ?_
      · exact fun s l => ok s (l1.toN.trans l)
      · exact fun y hy s l => hx y (List.mem_cons_of_mem _ hy) s (l1.toN.trans l)
      · exact fun ys s h1 h2 l => fin ys s h1 (by rw [List.filter_cons_of_neg (by rw [hbx]; exact Bool.false_ne_true)]; exact h2) (l1.toN.trans l)
    | true =>
      simp only [if_true]
      refine he hbx st1 l1 _ fun y st2 l2 vy => ?_
      have l12 := l1.trans l2
      have hacc2 := l12.get hacc hn
      have hlt := lt_of_get hacc2
      have lw : LeN n t st (st2.set n (.lst (acc ++ [y]))) := l12.toN.trans (.set hn)
      have mw : ∀ {W : VP} {d : D}, MonoLo (n + 1) t W → W d st2 → W d (st2.set n (.lst (acc ++ [y]))) := fun mW w => mW _ _ _ w fun i hi _ _ => List.getElem?_set_ne (by omega)
      refine ⟨acc, hacc2, ?_, ih (acc ++ [y]) (Vs ++ [V x]) _ ?_ (List.getElem?_set_self hlt) ?_ ?_ ?_ ?_ ?_⟩
      · rw [sizeLine_eq]; simp at hl; omega
      · intro W hW
        rcases List.mem_append.mp hW with h | h
        · exact mV W h
        · simp at h; subst h; exact m x
      · exact ((keep l12).imp fun W hW d w => mw (mV W hW) w).app (.cons (mw (m x) vy) .nil)
      · simp at hl ⊢; omega
      · exact fun s l => ok s (lw.trans l)
      · exact fun z hz s l => hx z (List.mem_cons_of_mem _ hz) s (lw.trans l)
      · exact fun ys s h1 h2 l => fin ys s h1 (by rw [List.filter_cons_of_pos hbx, List.map_cons]; rw [List.append_assoc] at h2; exact h2) (lw.trans l)
/-- one clause -/
theorem e_lcV {own : List Nat} {wi : WI} {g : WG} {wt : WT} {we : W} {xs : List D} (ht : ∀ i, t = some i → i < st.length) (hi : EvI t wi env st xs) (b : D → Bool) (V : D → VP) (m : ∀ lo, st.length < lo → ∀ x, MonoLo lo t (V x)) (hl : xs.length ≤ 100000)
    (hx : ∀ x ∈ xs, ∀ s, st.length < s.length → Le t st s → ∀ P : Ev → Sto → Prop, (∀ env', EvB t wt env' s (b x) → (b x = true → Evl t we env' s (V x)) → P env' s) → g x (wipeE env own) s P) :
    Evl t (wLc own wi g wt we) env st (LsV t st.length ((xs.filter b).map V)) := fun st0 l0 P p => hi st0 l0 _ fun di st1 l1 hd ok => by
  have l01 := l0.trans l1
  have hn : t ≠ some st1.length := fun e => by have := ht _ e; have := l01.len; omega
  have back : ∀ {s : Sto}, LeN st1.length t (st1 ++ [.lst []]) s → Le t st1 s := fun l => ⟨by have := l.len; simp at this; omega, fun i h h2 => (l.eq i (by simp; omega) (by omega) h2).trans (List.getElem?_append_left h), fun i e h => l.td i e (Le.push.td i e h)⟩
  rw [hd]
  refine loop_lc b V (m _ (by have := l01.len; omega)) hn xs [] [] _ (fun _ h => absurd h (by simp)) (by simp) .nil (by simpa using hl) (fun s l => ok s (back l)) (fun x h s l => hx x h s (by have := l01.len; have := l.len; simp at this; omega) (l01.trans (back l))) fun ys s h1 h2 l => ?_
  exact p _ s (l1.trans (back l)) ⟨_, ys, rfl, h1, hn, l01.len, by simpa using h2⟩
theorem lsv_is {lo : Nat} {xs : List D} {d : D} {s : Sto} (h : LsV t lo (xs.map Is) d s) : Ls t lo xs d s := by
  obtain ⟨n, ys, e, h1, k, z, f⟩ := h
  rw [f2_is f] at h1
  exact ⟨n, e, h1, k, z⟩
/-- every item gives a value -/
theorem e_lc {own : List Nat} {wi : WI} {g : WG} {we : W} {xs : List D} (f : D → D) (ht : ∀ i, t = some i → i < st.length) (hi : EvI t wi env st xs) (hl : xs.length ≤ 100000)
    (hx : ∀ x ∈ xs, ∀ s, Le t st s → ∀ P : Ev → Sto → Prop, (∀ env', Evl t we env' s (Is (f x)) → P env' s) → g x (wipeE env own) s P) :
    Evl t (wLc own wi g wYes we) env st (Ls t st.length (xs.map f)) :=
  (e_lcV ht hi (fun _ => true) (fun x => Is (f x)) (fun _ _ _ => mlo_is) hl fun x h s _ l P p => hx x h s l P fun env' he => p env' (fun st0 l0 P p => p st0 .refl) fun _ => he).weak fun d s _ h => by
    rw [List.filter_eq_self.mpr (fun _ _ => rfl)] at h
    exact lsv_is (by simpa [List.map_map, Function.comp_def] using h)
/-- the items that pass, each gives a value -/
theorem e_lcF {own : List Nat} {wi : WI} {g : WG} {wt : WT} {we : W} {xs : List D} (b : D → Bool) (f : D → D) (ht : ∀ i, t = some i → i < st.length) (hi : EvI t wi env st xs) (hl : xs.length ≤ 100000)
    (hx : ∀ x ∈ xs, ∀ s, Le t st s → ∀ P : Ev → Sto → Prop, (∀ env', EvB t wt env' s (b x) → (b x = true → Evl t we env' s (Is (f x))) → P env' s) → g x (wipeE env own) s P) :
    Evl t (wLc own wi g wt we) env st (Ls t st.length ((xs.filter b).map f)) :=
  (e_lcV ht hi b (fun x => Is (f x)) (fun _ _ _ => mlo_is) hl fun x h s _ l P p => hx x h s l P p).weak fun d s _ h => by
    refine lsv_is (by simpa [List.map_map, Function.comp_def] using h)
/-- every item gives some value with a property -/
theorem e_lcS {own : List Nat} {wi : WI} {g : WG} {we : W} {xs : List D} (q : D → D → Prop) (ht : ∀ i, t = some i → i < st.length) (hi : EvI t wi env st xs) (hl : xs.length ≤ 100000)
    (hx : ∀ x ∈ xs, ∀ s, Le t st s → ∀ P : Ev → Sto → Prop, (∀ env', Evl t we env' s (Sm (q x)) → P env' s) → g x (wipeE env own) s P) :
    Evl t (wLc own wi g wYes we) env st (LsV t st.length (xs.map fun x => Sm (q x))) :=
  (e_lcV ht hi (fun _ => true) (fun x => Sm (q x)) (fun _ _ _ => mlo_sm) hl fun x h s _ l P p => hx x h s l P fun env' he => p env' (fun st0 l0 P p => p st0 .refl) fun _ => he).weak fun d s _ h => by
    rw [List.filter_eq_self.mpr (fun _ _ => rfl)] at h
    exact h

/-! ### for, while -/
/-- the rest of the items, the names, the store: a word that every turn keeps -/
theorem for_inv {wi : WI} {g : WG} {b : WS} {E : En} {xs : List D} (hi : EvI t wi env st xs) (Inv : List D → Ev → Sto → Prop) (h0 : ∀ s, Le t st s → Inv xs env s)
    (hs : ∀ x r env1 s, Le t st s → Inv (x :: r) env1 s → ∀ Nx : Ev → Sto → Prop, (∀ env3 s3, Le t s s3 → Inv r env3 s3 → Nx env3 s3) → g x env1 s fun env2 s2 => b { nx := Nx, ct := Nx, bk := E.nx, rt := E.rt } env2 s2)
    (hd : ∀ env1 s, Le t st s → Inv [] env1 s → E.nx env1 s) : wFor wi g b E env st := by
  refine hi st .refl _ fun di st1 l1 hd1 ok => ?_
  rw [hd1]
  have key : ∀ (ys : List D) (env1 : Ev) (s : Sto), Le t st1 s → Inv ys env1 s → loopF di g b E ys env1 s := by
    intro ys
    induction ys with
    | nil => exact fun env1 s l inv => ⟨ok s l, hd env1 s (l1.trans l) inv⟩
    | cons x r ih => exact fun env1 s l inv => ⟨ok s l, hs x r env1 s (l1.trans l) inv _ fun env3 s3 l3 inv3 => ih env3 s3 (l.trans l3) inv3⟩
  exact key xs env st1 .refl (h0 st1 l1)
theorem while_inv {c : WT} {b : WS} {E : En} (Inv : Nat → Ev → Sto → Prop) (n0 : Nat) (h0 : Inv n0 env st)
    (hs : ∀ n env1 s, Inv n env1 s → ∀ Nx : Ev → Sto → Prop, (∀ k env3 s3, k < n → Inv k env3 s3 → Nx env3 s3) → c env1 s fun k s1 => if k = true then b { nx := Nx, ct := Nx, bk := E.nx, rt := E.rt } env1 s1 else E.nx env1 s1) : wWhile c b E env st := by
  refine ⟨n0 + 1, ?_⟩
  have key : ∀ (N n : Nat), n < N → ∀ env1 s, Inv n env1 s → iterW c b E N env1 s := by
    intro N
    induction N with
    | zero => exact fun n h => absurd h (by omega)
    | succ N ih => exact fun n h env1 s inv => hs n env1 s inv _ fun k env3 s3 hk inv3 => ih k (by omega) env3 s3 inv3
  exact key _ n0 (by omega) env st h0
/-! ### statements -/
theorem q_asg {we : W} {i : Nat} {V : VP} {E : En} (h : Evl t we env st V) (k : ∀ d s, Le t st s → V d s → E.nx (env.set i (some d)) s) : wAsg we (gNm i) E env st := h.go fun d s l v => k d s l v
theorem q_asgI {we : W} {i : Nat} {a : D} {E : En} (h : Evl t we env st (Is a)) (k : ∀ s, Le t st s → E.nx (env.set i (some a)) s) : wAsg we (gNm i) E env st := h.go fun d s l v => by cases v; exact k s l
theorem q_ret {we : W} {V : VP} {E : En} (h : Evl t we env st V) (k : EvP t st V E.rt) : wRet we E env st := h.go k
theorem q_retI {we : W} {a : D} {E : En} (h : Evl t we env st (Is a)) (k : ∀ s, Le t st s → E.rt a s) : wRet we E env st := h.go fun d s l v => by cases v; exact k s l
theorem q_if {c : WT} {b : Bool} {w u : WS} {E : En} (h : EvB t c env st b) (h1 : b = true → ∀ s, Le t st s → w E env s) (h2 : b = false → ∀ s, Le t st s → u E env s) : wIfS c w u E env st := h.go fun s l => by
  cases b with
  | true => exact h1 rfl s l
  | false => exact h2 rfl s l
theorem q_par {is : List Nat} {wa : WA} {ds : List D} {E : En} (h : EvA t wa env st (ds.map Is)) (hl : ds.length = is.length) (k : ∀ s, Le t st s → E.nx (setAll env is ds) s) : wPar is wa E env st := a_list h .refl fun s l => ⟨hl, k s l⟩
end
/-! the same where no tide turns -/
section
variable {env : Ev} {st : Sto}
theorem p_asg {we : W} {i : Nat} {V : VP} {E : En} (h : Evl none we env st V) (k : ∀ d s, Le none st s → V d s → E.nx (env.set i (some d)) s) : wAsg we (gNm i) E env st := q_asg h k
theorem p_asgI {we : W} {i : Nat} {a : D} {E : En} (h : Evl none we env st (Is a)) (k : ∀ s, Le none st s → E.nx (env.set i (some a)) s) : wAsg we (gNm i) E env st := q_asgI h k
theorem p_ret {we : W} {V : VP} {E : En} (h : Evl none we env st V) (k : EvP none st V E.rt) : wRet we E env st := q_ret h k
theorem p_retI {we : W} {a : D} {E : En} (h : Evl none we env st (Is a)) (k : ∀ s, Le none st s → E.rt a s) : wRet we E env st := q_retI h k
theorem p_if {c : WT} {b : Bool} {w u : WS} {E : En} (h : EvB none c env st b) (h1 : b = true → ∀ s, Le none st s → w E env s) (h2 : b = false → ∀ s, Le none st s → u E env s) : wIfS c w u E env st := q_if h h1 h2
theorem p_par {is : List Nat} {wa : WA} {ds : List D} {E : En} (h : EvA none wa env st (ds.map Is)) (hl : ds.length = is.length) (k : ∀ s, Le none st s → E.nx (setAll env is ds) s) : wPar is wa E env st := q_par h hl k
theorem p_for {wi : WI} {g : WG} {b : WS} {E : En} {xs : List D} (hi : EvI none wi env st xs) (Inv : List D → Ev → Sto → Prop) (h0 : ∀ s, Le none st s → Inv xs env s)
    (hs : ∀ x r env1 s, Le none st s → Inv (x :: r) env1 s → ∀ Nx : Ev → Sto → Prop, (∀ env3 s3, Le none s s3 → Inv r env3 s3 → Nx env3 s3) → g x env1 s fun env2 s2 => b { nx := Nx, ct := Nx, bk := E.nx, rt := E.rt } env2 s2)
    (hd : ∀ env1 s, Le none st s → Inv [] env1 s → E.nx env1 s) : wFor wi g b E env st := for_inv hi Inv h0 hs hd
/-- a test that is not so -/
theorem p_no {c : WT} {w u : WS} {E : En} (h : EvB none c env st false) (h2 : ∀ s, Le none st s → u E env s) : wIfS c w u E env st := q_if h nofun fun _ => h2
theorem q_asgG {t : Option Nat} {we : W} {g : WG} {a : D} {E : En} (h : Evl t we env st (Is a)) (k : ∀ s, Le t st s → g a env s E.nx) : wAsg we g E env st := h.go fun d s l v => by cases v; exact k s l
theorem p_asgG {we : W} {g : WG} {a : D} {E : En} (h : Evl none we env st (Is a)) (k : ∀ s, Le none st s → g a env s E.nx) : wAsg we g E env st := q_asgG h k
theorem p_drop {we : W} {E : En} {V : VP} (h : Evl none we env st V) (k : ∀ s, Le none st s → E.nx env s) : wDrop we E env st := h.go fun d s l _ => k s l
end
end DX

set_option Elab.async false
set_option linter.all false
set_option maxRecDepth 100000
set_option maxHeartbeats 1000000
/-! DX, part q: more of the pure calculus: two clauses, slices, objects. -/
namespace DX
open PySem PySem.Spec PyProof.Rows L2
section
variable {t : Option Nat} {env : Ev} {st : Sto}
/-- an iterable that is a value -/
def EvC (t : Option Nat) (w : WI) (env : Ev) (st : Sto) (xs : List D) : Prop := ∀ st0, Le t st st0 → ∀ P : DI → Sto → Prop, (∀ di st', Le t st0 st' → di.items = xs → (∀ s, di.ok s) → P di st') → w env st0 P
theorem c_tup {w : W} {xs : List D} (h : Evl t w env st (Is (.tup xs))) : EvC t (wIter w) env st xs := fun st0 l0 P p => h st0 l0 _ fun d st1 l1 v => by cases v; exact ⟨_, rfl, p _ st1 l1 rfl fun _ => trivial⟩
theorem c_rng1 {w : W} {n : Nat} (h : Evl t w env st (Is (.int n))) (hn : n < 2 ^ 62) : EvC t (wRange1 (wCons w wNil)) env st ((List.range n).map fun (i : Nat) => D.int (i : Int)) := fun st0 l0 P p => h st0 l0 _ fun d st1 l1 v => by
  cases v
  refine ⟨n, rfl, by omega, p _ st1 l1 ?_ fun _ => trivial⟩
  show rangeItems 0 ((n : Int)).toNat 1 = _
  unfold rangeItems
  rw [Int.toNat_natCast]
  exact List.map_congr_left fun i _ => by simp
theorem b_yes : EvB t wYes env st true := fun st0 _ P p => p st0 .refl
theorem yes_if {A B : Sto → Prop} (h : A st) : wYes env st fun b st2 => if b = true then A st2 else B st2 := by
  show (if true = true then A st else B st)
  rw [if_pos rfl]; exact h
theorem loop_lc2 {n : Nat} {di : DI} {g : WG} {wi1 : WI} {g1 : WG} {we : W} {vs1 : List Nat} {Q : Sto → Prop} (ys : D → List D) (f : D → D → D) (hn : t ≠ some n) :
    ∀ (xs acc : List D) (st : Sto), n < st.length → st[n]? = some (.lst acc) → acc.length + (xs.flatMap fun x => (ys x).map (f x)).length ≤ 100000 → (∀ s, LeN n t st s → di.ok s) →
      (∀ x ∈ xs, ∀ s, LeN n t st s → ∀ P : Ev → Sto → Prop, (∀ env', EvC t wi1 env' s (ys x) → (∀ y ∈ ys x, ∀ s1, LeN n t s s1 → ∀ P1 : Ev → Sto → Prop, (∀ env2, Evl t we env2 s1 (Is (f x y)) → P1 env2 s1) → g1 y (wipeE env' vs1) s1 P1) → P env' s) → g x env s P) →
      (∀ s, s[n]? = some (.lst (acc ++ xs.flatMap fun x => (ys x).map (f x))) → LeN n t st s → Q s) → loopC2 n di g wYes wi1 g1 wYes we vs1 env Q xs st := by
  intro xs
  induction xs with
  | nil => exact fun acc st _ h _ ok _ fin => ⟨ok st .refl, fin st (by simpa using h) .refl⟩
  | cons x r ih =>
    intro acc st hnl h hl ok hx fin
    refine ⟨ok st .refl, hx x List.mem_cons_self st .refl _ fun env' hc he => ?_⟩
    refine yes_if (A := fun st2 => wi1 env' st2 fun dj st3 => loopC n dj g1 wYes we (wipeE env' vs1) (fun st4 => loopC2 n di g wYes wi1 g1 wYes we vs1 env Q r st4) dj.items st3) (B := fun st2 => loopC2 n di g wYes wi1 g1 wYes we vs1 env Q r st2) ?_
    refine hc st .refl _ fun dj st1 l1 hd ok1 => ?_
    rw [hd]
    have h1 := l1.get h hn
    simp only [List.flatMap_cons, List.length_append, List.length_map] at hl
    refine loop_lc (fun _ => true) (fun y => Is (f x y)) (fun _ => mlo_is) hn (ys x) acc (acc.map Is) st1 (fun V hV => ?_) h1 f2_is' (by omega) (fun s _ => ok1 s) (fun y hy s l P p => he y hy s (l1.toN.trans l) P fun env2 h2 => p env2 b_yes fun _ => h2) fun zs s h2 f2 l => ?_
    · obtain ⟨d, _, rfl⟩ := List.mem_map.mp hV; exact mlo_is
    · rw [List.filter_eq_self.mpr (fun _ _ => rfl)] at f2
      have e : zs = acc ++ (ys x).map (f x) := f2_is (by rw [List.map_append, List.map_map]; exact f2)
      subst e
      have l2 := (l1.toN (n := n)).trans l
      refine ih _ s (Nat.lt_of_lt_of_le hnl l2.len) h2 ?_ (fun s' l' => ok s' (l2.trans l')) (fun z hz s' l' => hx z (List.mem_cons_of_mem _ hz) s' (l2.trans l')) fun s' h' l' => fin s' ?_ (l2.trans l')
      · simp only [List.length_append, List.length_map]; omega
      · rw [h', List.flatMap_cons, List.append_assoc]
theorem e_lc2 {own vs1 : List Nat} {wi : WI} {g : WG} {wi1 : WI} {g1 : WG} {we : W} {xs : List D} (ys : D → List D) (f : D → D → D) (ht : ∀ i, t = some i → i < st.length) (hi : EvI t wi env st xs) (hl : (xs.flatMap fun x => (ys x).map (f x)).length ≤ 100000)
    (hx : ∀ x ∈ xs, ∀ s, Le t st s → ∀ P : Ev → Sto → Prop, (∀ env', EvC t wi1 env' s (ys x) → (∀ y ∈ ys x, ∀ s1, ∀ P1 : Ev → Sto → Prop, (∀ env2, Evl t we env2 s1 (Is (f x y)) → P1 env2 s1) → g1 y (wipeE env' vs1) s1 P1) → P env' s) → g x (wipeE env own) s P) :
    Evl t (wLc2 own vs1 wi g wYes wi1 g1 wYes we) env st (Ls t st.length (xs.flatMap fun x => (ys x).map (f x))) := fun st0 l0 P p => hi st0 l0 _ fun di st1 l1 hd ok => by
  have l01 := l0.trans l1
  have hn : t ≠ some st1.length := fun e => by have := ht _ e; have := l01.len; omega
  have back : ∀ {s : Sto}, LeN st1.length t (st1 ++ [.lst []]) s → Le t st1 s := fun l => ⟨by have := l.len; simp at this; omega, fun i h h2 => (l.eq i (by simp; omega) (by omega) h2).trans (List.getElem?_append_left h), fun i e h => l.td i e (Le.push.td i e h)⟩
  rw [hd]
  refine loop_lc2 ys f hn xs [] _ (by simp) (by simp) (by simpa using hl) (fun s l => ok s (back l)) (fun x h s l P p => hx x h s (l01.trans (back l)) P fun env' h1 h2 => p env' h1 fun y hy s1 _ => h2 y hy s1) fun s h l => ?_
  exact p _ s (l1.trans (back l)) ⟨_, rfl, by simpa using h, hn, l01.len⟩
/-! slices -/
theorem e_to {w u : W} {xs : List D} {n : Nat} (h : Evl t w env st (Is (.tup xs))) (hu : Evl t u env st (Is (.int n))) : Evl t (wSlc w wNo (wSome u)) env st (Is (.tup (xs.take n))) := fun st0 l0 P p =>
  h st0 l0 _ fun d st1 l1 v => hu st1 (l0.trans l1) _ fun e st2 l2 v2 => by
    cases v; cases v2
    refine ⟨n, rfl, ?_⟩
    show P (.tup (cutD xs none (some (n : Int)))) st2
    have e : cutD xs none (some (n : Int)) = xs.take n := by
      unfold cutD HT.sIx
      simp only [show ¬ ((n : Int) < 0) by omega, if_false, Int.toNat_natCast, List.drop_zero, Nat.sub_zero]
      by_cases hl : n ≤ xs.length
      · rw [Nat.min_eq_left hl]
      · rw [Nat.min_eq_right (by omega), List.take_of_length_le (Nat.le_refl _), List.take_of_length_le (by omega)]
    rw [e]
    exact p _ st2 (l1.trans l2) rfl
/-! objects -/
theorem e_fld {C f : Str} {wo : W} {r : Nat} {fs : List (Str × D)} {V : VP} {d : D} (h : Evl t wo env st (Is (.ref r))) (hr : st[r]? = some (.ins C fs)) (hn : t ≠ some r) (hf : fs.lookup f = some d) (m : Mono t V) (hv : V d st) : Evl t (wFl C f wo) env st V := fun st0 l0 P p =>
  h st0 l0 _ fun x st1 l1 v => by cases v; exact ⟨r, fs, d, rfl, (l0.trans l1).get hr hn, hf, p _ st1 l1 (m _ _ _ hv (l0.trans l1))⟩
theorem e_fldI {C f : Str} {wo : W} {r : Nat} {fs : List (Str × D)} {d : D} (h : Evl t wo env st (Is (.ref r))) (hr : st[r]? = some (.ins C fs)) (hn : t ≠ some r) (hf : fs.lookup f = some d) : Evl t (wFl C f wo) env st (Is d) := e_fld h hr hn hf mono_is rfl
theorem e_mt {C m : Str} {n : Nat} {sp : DSp} {wo : W} {wa : WA} {r : Nat} {fs : List (Str × D)} {Vs : List VP} {V : VP} (h : Evl t wo env st (Is (.ref r))) (hr : st[r]? = some (.ins C fs)) (hn : t ≠ some r) (hm : fs.lookup m = none) (ha : EvA t wa env st Vs) (hl : Vs.length + 1 = n)
    (k : ∀ ds s, Le t st s → F2 s Vs ds → ∀ P, EvP t s V P → sp (.ref r :: ds) s P) : Evl t (wMt C m n sp wo wa) env st V := fun st0 l0 P p =>
  h st0 l0 _ fun x st1 l1 v => by
    cases v
    refine ⟨r, fs, rfl, (l0.trans l1).get hr hn, hm, ha st1 (l0.trans l1) _ fun ds st2 l2 f => ?_⟩
    exact ⟨by rw [← f.len]; exact hl, k ds st2 ((l0.trans l1).trans l2) f P (p.le (l1.trans l2))⟩
theorem e_mt1 {C m : Str} {sp : DSp} {wo w : W} {r : Nat} {a : D} {fs : List (Str × D)} {V : VP} (h : Evl t wo env st (Is (.ref r))) (hr : st[r]? = some (.ins C fs)) (hn : t ≠ some r) (hm : fs.lookup m = none) (ha : Evl t w env st (Is a))
    (k : ∀ s, Le t st s → ∀ P, EvP t s V P → sp [.ref r, a] s P) : Evl t (wMt C m 2 sp wo (wCons w wNil)) env st V := e_mt h hr hn hm (a_is ha a_nil) rfl fun ds s l f P p => by rw [f2_is (xs := [a]) f]; exact k s l P p
theorem e_mt2 {C m : Str} {sp : DSp} {wo w u : W} {r : Nat} {a b : D} {fs : List (Str × D)} {V : VP} (h : Evl t wo env st (Is (.ref r))) (hr : st[r]? = some (.ins C fs)) (hn : t ≠ some r) (hm : fs.lookup m = none) (ha : Evl t w env st (Is a)) (hb : Evl t u env st (Is b))
    (k : ∀ s, Le t st s → ∀ P, EvP t s V P → sp [.ref r, a, b] s P) : Evl t (wMt C m 3 sp wo (wCons w (wCons u wNil))) env st V := e_mt h hr hn hm (a_is ha (a_is hb a_nil)) rfl fun ds s l f P p => by rw [f2_is (xs := [a, b]) f]; exact k s l P p
/-- self.f = .. -/
theorem p_fset {C f : Str} {we : W} {i r : Nat} {fs : List (Str × D)} {V : VP} {E : En} (h : Evl none we env st V) (hi : env[i]? = some (some (.ref r))) (hr : st[r]? = some (.ins C fs)) (hl : fs.length < 1000)
    (k : ∀ d s, Le none st s → V d s → E.nx env (s.set r (.ins C (putD f d fs)))) : wAsg we (gFl C f (wVar i)) E env st := h.go fun d s l v => ⟨_, hi, r, fs, rfl, l.get hr nofun, hl, k d s l v⟩
/-- C(..), its promise told at the new object -/
theorem e_mk {C : Str} {n : Nat} {sp : DSp} {wa : WA} {Vs : List VP} {V : VP} (ha : EvA t wa env st Vs) (hl : Vs.length + 1 = n)
    (k : ∀ ds s, Le t st s → F2 s Vs ds → ∀ P : DP, (∀ s', Le t s s' → V (.ref s.length) s' → P .non s') → sp (.ref s.length :: ds) (s ++ [.ins C []]) P) : Evl t (wMk C n sp wa) env st V := fun st0 l0 P p => ha st0 l0 _ fun ds st1 l1 f =>
  ⟨by rw [← f.len]; exact hl, k ds st1 (l0.trans l1) f _ fun s' l' v => ⟨rfl, p _ s' (l1.trans l') v⟩⟩
/-- every item gives a new list -/
theorem e_lcL {own : List Nat} {wi : WI} {g : WG} {we : W} {xs : List D} (f : D → List D) (ht : ∀ i, t = some i → i < st.length) (hi : EvI t wi env st xs) (hl : xs.length ≤ 100000)
    (hx : ∀ x ∈ xs, ∀ s, Le t st s → ∀ P : Ev → Sto → Prop, (∀ env', Evl t we env' s (Ls t s.length (f x)) → P env' s) → g x (wipeE env own) s P) :
    Evl t (wLc own wi g wYes we) env st (LsV t st.length (xs.map fun x => Ls t 0 (f x))) := fun st0 l0 P p => hi st0 l0 _ fun di st1 l1 hd ok => by
  have l01 := l0.trans l1
  have hn : t ≠ some st1.length := fun e => by have := ht _ e; have := l01.len; omega
  have back : ∀ {s : Sto}, LeN st1.length t (st1 ++ [.lst []]) s → Le t st1 s := fun l => ⟨by have := l.len; simp at this; omega, fun i h h2 => (l.eq i (by simp; omega) (by omega) h2).trans (List.getElem?_append_left h), fun i e h => l.td i e (Le.push.td i e h)⟩
  rw [hd]
  refine loop_lc (fun _ => true) (fun x => Ls t (st1.length + 1) (f x)) (fun _ => mlo_ls) hn xs [] [] _ (fun _ h => absurd h (by simp)) (by simp) .nil (by simpa using hl) (fun s l => ok s (back l)) (fun x h s l P p => hx x h s (l01.trans (back l)) P fun env' he => p env' b_yes fun _ => he.weak fun d s' l' ⟨n, e, h1, h2, h3⟩ => ⟨n, e, h1, h2, by have := l.len; simp at this; omega⟩) fun ys s h1 h2 l => ?_
  rw [List.filter_eq_self.mpr (fun _ _ => rfl), List.nil_append] at h2
  refine p _ s (l1.trans (back l)) ⟨_, ys, rfl, h1, hn, l01.len, ?_⟩
  have key : ∀ (zs ys : List D), F2 s (zs.map fun x => Ls t (st1.length + 1) (f x)) ys → F2 s (zs.map fun x => Ls t 0 (f x)) ys := by
    intro zs
    induction zs with
    | nil => exact fun ys h => h
    | cons z zs ih =>
      intro ys h
      cases h with
      | cons v r =>
        obtain ⟨n, e, h1, h2, _⟩ := v
        exact .cons ⟨n, e, h1, h2, Nat.zero_le _⟩ (ih _ r)
  exact key xs ys h2
theorem e_dic0 : Evl t wDic0 env st (Sm fun d => ∃ c, d = .ref c) := fun st0 _ P p => p _ _ .push ⟨_, rfl⟩
end
end DX

set_option Elab.async false
set_option linter.all false
set_option maxRecDepth 100000
set_option maxHeartbeats 1000000
/-! k11, part a: promises of the small defs. -/
namespace K11
open PySem PySem.Spec PyProof.Rows L2 DX

abbrev Ret (st : Sto) (r : D) (P : DP) : Prop := ∀ s, Le none st s → P r s
theorem Ret.evp {t : Option Nat} {st : Sto} {r : D} {P : DP} (h : EvP t st (Is r) P) : Ret st r P := fun s l => h r s l.up rfl
theorem Ret.fin {st : Sto} {r : D} {P : DP} (h : Ret st r P) : EvP none st (Is r) P := fun d s l v => by cases v; exact h s l
abbrev inz (ns : List Int) : List D := ns.map D.int
abbrev tI (ns : List Int) : D := .tup (inz ns)
abbrev fr2 (a b : Int) : D := .tup [.int a, .int b]
abbrev En0 (P : DP) : En := { nx := fun _ st => P .non st, rt := P }

/-! is_whole, is_from, are_wholes, is_tuple_up_to -/
def sp_is_whole : DSp := fun ds st P => ∃ i : Int, ds = [.int i] ∧ Ret st (.bl true) P
theorem ok_is_whole (ds : List D) (st : Sto) (P : DP) (h : sp_is_whole ds st P) : w_is_whole (En0 P) (startE 1 ds) st := by
  obtain ⟨i, rfl, h⟩ := h
  exact p_retI (e_and (b := true) (e_isi (e_var rfl) (fun _ => rfl) rfl) fun _ => e_not (b := false) (e_isi (e_var rfl) (fun _ => rfl) rfl)) h
def sp_is_from : DSp := fun ds st P => ∃ i l : Int, ds = [.int i, .int l] ∧ Ret st (.bl (decide (l ≤ i))) P
theorem ok_is_from (ds : List D) (st : Sto) (P : DP) (h : sp_is_from ds st P) : w_is_from sp_is_whole (En0 P) (startE 2 ds) st := by
  obtain ⟨i, l, rfl, h⟩ := h
  exact p_retI (e_and (b := true) (e_def1 (e_var rfl) fun s _ P p => ⟨i, rfl, Ret.evp p⟩) fun _ => e_le (e_var rfl) (e_var rfl)) h
def sp_is_tuple_up_to : DSp := fun ds st P => ∃ (xs : List D) (a b : Int), ds = [.tup xs, .int a, .int b] ∧ Ret st (.bl (decide (a ≤ xs.length) && decide ((xs.length : Int) ≤ b))) P
theorem ok_is_tuple_up_to (ds : List D) (st : Sto) (P : DP) (h : sp_is_tuple_up_to ds st P) : w_is_tuple_up_to (En0 P) (startE 3 ds) st := by
  obtain ⟨xs, a, b, rfl, h⟩ := h
  exact p_retI (e_and (b := true) (e_isi (e_var rfl) (fun _ => rfl) rfl) fun _ => e_chain (e_var rfl) (e_lenT (e_var rfl)) (e_var rfl) (fun _ _ p => ⟨trivial, p⟩) (fun _ _ p => ⟨trivial, p⟩)) h
theorem g1 {i : Nat} {d : D} {env : Ev} {s : Sto} {P : Ev → Sto → Prop} (h : P (env.set i (some d)) s) : gNm i d env s P := h
theorem g2 {i j : Nat} {d e : D} {env : Ev} {s : Sto} {P : Ev → Sto → Prop} (h : P ((env.set i (some d)).set j (some e)) s) : gTp 2 (gsCons (gNm i) (gsCons (gNm j) gsNil)) (.tup [d, e]) env s P := ⟨[d, e], rfl, rfl, d, [e], rfl, e, [], rfl, rfl, h⟩
def sp_are_wholes : DSp := fun ds st P => ∃ (ns : List Int) (n : Int), ds = [tI ns, .int n] ∧ ns.length ≤ 1000 ∧ Ret st (.bl (decide ((ns.length : Int) = n))) P
theorem all_true {α : Type} (xs : List α) : (xs.map fun _ => true).all id = true := by induction xs <;> simp_all
theorem ok_are_wholes (ds : List D) (st : Sto) (P : DP) (h : sp_are_wholes ds st P) : w_are_wholes sp_is_whole (En0 P) (startE 3 ds) st := by
  obtain ⟨ns, n, rfl, hz, h⟩ := h
  refine p_retI (a := .bl (true && (decide (((inz ns).length : Int) = n) && (ns.map fun _ => true).all id))) (e_and (e_isi (e_var rfl) (fun _ => rfl) rfl) fun _ => e_and (e_eq (e_lenT (e_var rfl)) (e_var rfl)) fun _ => e_all (lo := st.length) ?_) ?_
  · have := e_lc (t := none) (wi := wIter (wVar 0)) (own := [2]) (g := gNm 2) (we := wDef 1 sp_is_whole (wCons (wVar 2) wNil)) (env := startE 3 [tI ns, .int n]) (st := st) (xs := inz ns) (fun _ => .bl true) nofun (i_tup (e_var rfl)) (by simp; omega) fun x hx s l P p => by
      obtain ⟨i, _, rfl⟩ := List.mem_map.mp hx
      exact g1 (p _ (e_def1 (e_var rfl) fun s _ P p => ⟨i, rfl, Ret.evp p⟩))
    rw [List.map_map] at this ⊢
    exact this
  · rw [all_true, Bool.true_and, Bool.and_true, List.length_map]; exact h

/-! common_divisor, fraction -/
def sp_common_divisor : DSp := fun ds st P => ∃ i j : Int, ds = [.int i, .int j] ∧ Ret st (.int (Int.gcd i j : Nat)) P
theorem ok_common_divisor (ds : List D) (st : Sto) (P : DP) (h : sp_common_divisor ds st P) : w_common_divisor (En0 P) (startE 2 ds) st := by
  obtain ⟨i, j, rfl, h⟩ := h
  refine p_par (ds := [.int (i.natAbs : Int), .int (j.natAbs : Int)]) (a_is (e_abs (e_var rfl)) (a_is (e_abs (e_var rfl)) a_nil)) rfl fun s l => ?_
  refine while_inv (fun n env1 s1 => ∃ a : Nat, env1 = [some (.int (a : Int)), some (.int (n : Int))] ∧ Nat.gcd a n = Int.gcd i j ∧ Le none st s1) j.natAbs ⟨i.natAbs, rfl, rfl, l⟩ fun n env1 s1 ⟨a, e, hg, l1⟩ Nx hN => ?_
  subst e
  refine (b_tb (t := none) (e_ne (e_var rfl) e_c)).go fun s2 l2 => ?_
  by_cases hn : (n : Int) = 0
  · have : n = 0 := by omega
    subst this
    simp only [Nat.gcd_zero_right] at hg
    simp only [Int.natCast_zero, decide_true, Bool.not_true, Bool.false_eq_true, if_false]
    subst hg
    exact p_retI (e_var rfl) fun s3 l3 => h s3 ((l1.trans l2).trans l3)
  · simp only [hn, decide_false, Bool.not_false, if_true]
    have hp : 0 < n := by omega
    refine p_par (ds := [.int (n : Int), .int ((a : Int) % (n : Int))]) (a_is (e_var rfl) (a_is (e_mod (e_int (e_var rfl)) (e_var rfl) (by omega)) a_nil)) rfl fun s3 l3 => ?_
    refine hN (a % n) _ s3 (Nat.mod_lt _ hp) ⟨n, rfl, ?_, (l1.trans l2).trans l3⟩
    rw [← hg, Nat.gcd_comm a n, Nat.gcd_rec n a, Nat.gcd_comm]
/-- the canonical form of a rational -/
def frD (a b : Int) : D := fr2 (a / (Int.gcd a b : Nat)) (b / (Int.gcd a b : Nat))
theorem gcd_pos {a b : Int} (h : 0 < b) : 0 < Int.gcd a b := Int.gcd_pos_of_ne_zero_right _ (by omega)
theorem gcd_le {a b : Int} (h : 0 < b) : (Int.gcd a b : Int) ≤ b := Int.le_of_dvd h (Int.gcd_dvd_right ..)
def sp_fraction : DSp := fun ds st P => ∃ a b : Int, ds = [.int a, .int b] ∧ 0 < b ∧ b < 2 ^ 9000 ∧ Ret st (frD a b) P
theorem ok_fraction (ds : List D) (st : Sto) (P : DP) (h : sp_fraction ds st P) : w_fraction sp_common_divisor (En0 P) (startE 3 ds) st := by
  obtain ⟨a, b, rfl, h0, h1, h⟩ := h
  have hp := gcd_pos (a := a) h0
  have hl := gcd_le (a := a) h0
  have ht : decide ((0 : Int) < b) = true := decide_eq_true h0
  refine p_asgI (a := .int (Int.gcd a b : Nat)) (e_if (b := true) (by rw [← ht]; exact b_tb (e_gt (e_var rfl) e_c)) (fun _ => e_def2 (e_var rfl) (e_var rfl) fun s _ P p => ⟨a, b, rfl, Ret.evp p⟩) nofun) fun s l => ?_
  exact p_retI (e_tup (ds := [_, _]) (a_is (e_div (e_var rfl) (e_var rfl) (by omega) (by omega)) (a_is (e_div (e_var rfl) (e_var rfl) (by omega) (by omega)) a_nil)) (Nat.le_of_ble_eq_true rfl)) fun s2 l2 => h s2 (l.trans l2)
end K11

set_option Elab.async false
set_option linter.all false
set_option maxRecDepth 100000
set_option maxHeartbeats 1000000
/-! k11, part b: what a kind is; is_kind_by. -/
namespace K11
open PySem PySem.Spec PyProof.Rows L2 DX

/-! sizes -/
def Sml (n : Nat) (x : Int) : Prop := x.natAbs < 2 ^ n
theorem Sml.mono {a b : Nat} {x : Int} (h : Sml a x) (k : a ≤ b) : Sml b x := Nat.lt_of_lt_of_le h (Nat.pow_le_pow_right (by decide) k)
theorem Sml.mul {a b : Nat} {x y : Int} (h : Sml a x) (k : Sml b y) : Sml (a + b) (x * y) := by
  unfold Sml at *
  rw [Int.natAbs_mul, Nat.pow_add]
  exact Nat.mul_lt_mul_of_lt_of_le h (Nat.le_of_lt k) (Nat.pow_pos (by decide))
theorem Sml.add {a : Nat} {x y : Int} (h : Sml a x) (k : Sml a y) : Sml (a + 1) (x + y) := by
  unfold Sml at *
  have := Int.natAbs_add_le x y
  rw [Nat.pow_succ]
  omega
theorem Sml.neg {a : Nat} {x : Int} (h : Sml a x) : Sml a (-x) := by unfold Sml at *; rw [Int.natAbs_neg]; exact h
theorem Sml.of_le {a : Nat} {x y : Int} (h : Sml a y) (k : x.natAbs ≤ y.natAbs) : Sml a x := Nat.lt_of_le_of_lt k h
theorem bits_le {a : Nat} {x : Int} (h : Sml a x) : Builtin.Int.intBits x ≤ a := by
  unfold Builtin.Int.intBits
  split
  · exact Nat.zero_le _
  · rename_i hx
    have hne : x.natAbs ≠ 0 := by simpa using hx
    have := (Nat.log2_lt hne).mpr h
    omega
theorem Sml.cm {a b : Nat} {x y : Int} (h : Sml a x) (k : Sml b y) (z : a + b ≤ 134217728 := by decide) : CMulX x y := by
  have h1 := bits_le h
  have h2 := bits_le k
  unfold CMulX
  omega
theorem Sml.lt {a : Nat} {x : Int} (h : Sml a x) (k : a ≤ 9000) : x < 2 ^ 9000 := by
  have h1 : x.natAbs < 2 ^ 9000 := h.mono k
  generalize hz : (2 : Nat) ^ 9000 = z at h1
  have : ((2 : Int) ^ 9000) = (z : Int) := by rw [← hz]; simp
  rw [this]
  omega

abbrev fD (p : Int × Int) : D := fr2 p.1 p.2
abbrev toldD (told : List (Int × Int)) : D := .tup (told.map fD)
abbrev wsD (w : List (List (Int × Int))) : D := .tup (w.map toldD)
abbrev kD (o : List Int) (w : List (List (Int × Int))) : D := .tup [tI o, wsD w]
structure Fr (p : Int × Int) : Prop where
  lo : 0 ≤ p.1
  hi : p.1 < p.2
  sz : p.2 ≤ 4096
  g : Int.gcd p.1 p.2 = 1
structure Kind (o : List Int) (w : List (List (Int × Int))) : Prop where
  n10 : o.length ≤ 10
  len : w.length = o.length
  two : ∀ x ∈ o, 2 ≤ x
  hi : ∀ x ∈ o, x ≤ 1024
  size : o.foldl (· * ·) 1 ≤ 1024
  tri : ∀ (i : Nat) told, w[i]? = some told → told.length = i + 1
  fr : ∀ told ∈ w, ∀ p ∈ told, Fr p
  own : ∀ (i : Nat) told p oi, w[i]? = some told → told[i]? = some p → o[i]? = some oi → p.2 ∣ p.1 * (oi * oi) ∧ p.2 ∣ p.1 * (2 * oi)
  cross : ∀ (i j : Nat) told p oi oj, w[i]? = some told → j < i → told[j]? = some p → o[i]? = some oi → o[j]? = some oj → p.2 ∣ p.1 * oi ∧ p.2 ∣ p.1 * oj

/-! is_fraction, is_worth -/
def sp_is_fraction : DSp := fun ds st P => ∃ p : Int × Int, ds = [fD p] ∧ Fr p ∧ Ret st (.bl true) P
theorem ok_is_fraction (ds : List D) (st : Sto) (P : DP) (h : sp_is_fraction ds st P) : w_is_fraction sp_are_wholes sp_common_divisor (En0 P) (startE 1 ds) st := by
  obtain ⟨p, rfl, f, h⟩ := h
  refine p_no (u := wNext) (b_or (b := false) (c := false) (b_not (b := true) (b_bl (e_def2 (e_var rfl) e_c fun s _ P q => ⟨[p.1, p.2], 2, rfl, Nat.le_of_ble_eq_true rfl, Ret.evp q⟩))) fun _ => ?_) fun s l => ?_
  · have e : decide (p.2 < 1) = false := decide_eq_false (by have := f.lo; have := f.hi; omega)
    rw [← e]
    exact b_tb (e_lt (e_idx (n := 1) (e_var rfl) e_c rfl) e_c)
  · refine p_retI (a := .bl (decide (((Int.gcd p.1 p.2 : Nat) : Int) = 1))) (e_eq (e_def2 (e_idx (n := 0) (e_var rfl) e_c rfl) (e_idx (n := 1) (e_var rfl) e_c rfl) fun s _ P q => ⟨p.1, p.2, rfl, Ret.evp q⟩) e_c) ?_
    rw [f.g]
    exact fun s2 l2 => h s2 (l.trans l2)
def sp_is_worth : DSp := sp_is_fraction
theorem ok_is_worth (ds : List D) (st : Sto) (P : DP) (h : sp_is_worth ds st P) : w_is_worth sp_is_fraction (En0 P) (startE 1 ds) st := by
  obtain ⟨p, rfl, f, h⟩ := h
  refine p_retI (a := .bl (true && (decide (0 ≤ p.1) && decide (p.1 < p.2)))) (e_and (e_def1 (e_var rfl) fun s _ P q => ⟨p, rfl, f, Ret.evp q⟩) fun _ => e_chain e_c (e_idx (n := 0) (e_var rfl) e_c rfl) (e_idx (n := 1) (e_var rfl) e_c rfl) (fun _ _ p => ⟨trivial, p⟩) (fun _ _ p => ⟨trivial, p⟩)) ?_
  rw [decide_eq_true f.lo, decide_eq_true f.hi]
  exact h
/-! product_of, common_multiple -/
def sp_product_of : DSp := fun ds st P => ∃ ns : List Int, ds = [tI ns] ∧ ns.length ≤ 20 ∧ (∀ x ∈ ns, Sml 11 x) ∧ Ret st (.int (ns.foldl (· * ·) 1)) P
theorem ok_product_of (ds : List D) (st : Sto) (P : DP) (h : sp_product_of ds st P) : w_product_of (En0 P) (startE 3 ds) st := by
  obtain ⟨ns, rfl, hl, hb, h⟩ := h
  refine p_asgI e_c fun s l => ?_
  refine p_for (i_tup (e_var rfl)) (fun r env1 _ => ∃ (q m : List Int) (x : Option D), ns = q ++ m ∧ r = inz m ∧ env1 = [some (tI ns), some (.int (q.foldl (· * ·) 1)), x] ∧ Sml (11 * q.length + 1) (q.foldl (· * ·) 1)) (fun _ _ => ⟨[], ns, none, rfl, rfl, rfl, by unfold Sml; decide⟩) ?_ ?_
  · rintro x r env1 s1 l1 ⟨q, m, y, e, er, ee, hs⟩ Nx hN
    cases m with
    | nil => cases er
    | cons a m =>
      injection er with e1 e2
      subst e1 e2 ee
      have ha : Sml 11 a := hb a (by rw [e]; simp)
      have hq : q.length ≤ 20 := by rw [e] at hl; simp at hl; omega
      refine g1 (p_asgI (e_mul (e_var rfl) (e_var rfl) (hs.cm ha (by omega))) fun s2 l2 => hN _ _ l2 ⟨q ++ [a], m, some (.int a), by rw [e]; simp, rfl, by simp [List.foldl_append], ?_⟩)
      rw [List.foldl_append]
      exact (hs.mul ha).mono (by simp; omega)
  · rintro env1 s1 l1 ⟨q, m, y, e, er, ee, hs⟩
    cases m with
    | cons a m => cases er
    | nil =>
      subst ee
      rw [List.append_nil] at e
      subst e
      exact p_retI (e_var rfl) fun s2 l2 => h s2 ((l.trans l1).trans l2)
/-- the least common multiple of a list -/
def lcmL (ns : List Int) : Int := ns.foldl (fun f m => (Int.lcm f m : Nat)) 1
theorem lcm_div {f m : Int} (hf : 0 < f) (hm : 0 < m) : f * m / (Int.gcd f m : Nat) = (Int.lcm f m : Nat) := by
  have h1 : ((Int.gcd f m : Nat) : Int) * (Int.lcm f m : Nat) = f * m := by
    have := Int.gcd_mul_lcm f m
    have h2 : ((Int.gcd f m * Int.lcm f m : Nat) : Int) = ((f * m).natAbs : Nat) := by rw [this, Int.natAbs_mul]
    rw [Int.natCast_mul] at h2
    rw [h2, Int.natAbs_of_nonneg (Int.le_of_lt (Int.mul_pos hf hm))]
  rw [← h1]
  exact Int.mul_ediv_cancel_left _ (by have := gcd_pos (a := f) hm; omega)
theorem lcm_pos {f m : Int} (hf : 0 < f) (hm : 0 < m) : (0 : Int) < (Int.lcm f m : Nat) := by
  have := Int.lcm_pos (by omega : f ≠ 0) (by omega : m ≠ 0)
  omega
theorem lcm_sml {f m : Int} {a b : Nat} (hf : 0 < f) (hm : 0 < m) (h1 : Sml a f) (h2 : Sml b m) : Sml (a + b) (Int.lcm f m : Nat) := by
  refine (h1.mul h2).of_le ?_
  rw [← lcm_div hf hm]
  exact Int.natAbs_ediv_le_natAbs _ _
def sp_common_multiple : DSp := fun ds st P => ∃ (n : Nat) (ns : List Int), ds = [.ref n] ∧ st[n]? = some (.lst (inz ns)) ∧ ns.length ≤ 100 ∧ (∀ x ∈ ns, 0 < x ∧ Sml 13 x) ∧ Ret st (.int (lcmL ns)) P
theorem ok_common_multiple (ds : List D) (st : Sto) (P : DP) (h : sp_common_multiple ds st P) : w_common_multiple sp_common_divisor (En0 P) (startE 3 ds) st := by
  obtain ⟨n, ns, rfl, hn, hl, hb, h⟩ := h
  refine p_asgI e_c fun s l => ?_
  refine p_for (i_ls (e_varV (V := Ls none 0 (inz ns)) rfl mono_ls ⟨n, rfl, l.get hn nofun, nofun, Nat.zero_le _⟩)) (fun r env1 _ => ∃ (q m : List Int) (x : Option D), ns = q ++ m ∧ r = inz m ∧ env1 = [some (.ref n), some (.int (lcmL q)), x] ∧ 0 < lcmL q ∧ Sml (13 * q.length + 1) (lcmL q)) (fun _ _ => ⟨[], ns, none, rfl, rfl, rfl, by decide, by unfold Sml; decide⟩) ?_ ?_
  · rintro x r env1 s1 l1 ⟨q, m, y, e, er, ee, h0, hs⟩ Nx hN
    cases m with
    | nil => cases er
    | cons a m =>
      injection er with e1 e2
      subst e1 e2 ee
      obtain ⟨ha0, ha⟩ := hb a (by rw [e]; simp)
      have hq : q.length ≤ 100 := by rw [e] at hl; simp at hl; omega
      have gl := gcd_le (a := lcmL q) ha0
      have gp := gcd_pos (a := lcmL q) ha0
      have e3 : lcmL (q ++ [a]) = (Int.lcm (lcmL q) a : Nat) := by unfold lcmL; rw [List.foldl_append]; rfl
      refine g1 (p_asgI (e_div (e_mul (e_var rfl) (e_var rfl) (hs.cm ha (by omega))) (e_def2 (e_var rfl) (e_var rfl) fun s _ P q => ⟨_, _, rfl, Ret.evp q⟩) (by omega) (by have := ha.lt (by decide); omega)) fun s2 l2 => hN _ _ l2 ⟨q ++ [a], m, some (.int a), by rw [e]; simp, rfl, ?_, ?_, ?_⟩)
      · rw [lcm_div h0 ha0, e3]; rfl
      · rw [e3]; exact lcm_pos h0 ha0
      · rw [e3]; exact (lcm_sml h0 ha0 hs ha).mono (by simp; omega)
  · rintro env1 s1 l1 ⟨q, m, y, e, er, ee, h0, hs⟩
    cases m with
    | cons a m => cases er
    | nil =>
      subst ee
      rw [List.append_nil] at e
      subst e
      exact p_retI (e_var rfl) fun s2 l2 => h s2 ((l.trans l1).trans l2)
end K11

set_option Elab.async false
set_option linter.all false
set_option maxRecDepth 100000
set_option maxHeartbeats 1000000
/-! k11, part c: is_kind_by and what stands on it. -/
namespace K11
open PySem PySem.Spec PyProof.Rows L2 DX

theorem enumD_cons {k : Nat} {xs : List D} {x : D} {r : List D} (h : x :: r = enumD k xs) : ∃ a as, xs = a :: as ∧ x = .tup [.int k, a] ∧ r = enumD (k + 1) as := by
  cases xs with
  | nil => cases h
  | cons a as => injection h with h1 h2; exact ⟨a, as, rfl, h1, h2⟩
theorem zipD_cons {xs ys : List D} {x : D} {r : List D} (h : x :: r = zipD xs ys) : ∃ a as b bs, xs = a :: as ∧ ys = b :: bs ∧ x = .tup [a, b] ∧ r = zipD as bs := by
  cases xs with
  | nil => cases h
  | cons a as =>
    cases ys with
    | nil => cases h
    | cons b bs => injection h with h1 h2; exact ⟨a, as, b, bs, rfl, rfl, h1, h2⟩
theorem map_cons {α β : Type} {f : α → β} {xs : List α} {y : β} {ys : List β} (h : xs.map f = y :: ys) : ∃ x r, xs = x :: r ∧ y = f x ∧ ys = r.map f := by
  cases xs with
  | nil => cases h
  | cons x r => injection h with h1 h2; exact ⟨x, r, rfl, h1.symm, h2.symm⟩
theorem Fr.s1 {p : Int × Int} (f : Fr p) : Sml 12 p.1 := by have := f.lo; have := f.hi; have := f.sz; unfold Sml; show _ < 4096; omega
theorem Fr.s2 {p : Int × Int} (f : Fr p) : Sml 13 p.2 := by have := f.lo; have := f.hi; have := f.sz; unfold Sml; show _ < 8192; omega
theorem Kind.so {o w} (k : Kind o w) {x : Int} (h : x ∈ o) : Sml 11 x := by have := k.two x h; have := k.hi x h; unfold Sml; show _ < 2048; omega
theorem Kind.worths {o w} (k : Kind o w) {i : Nat} {told : List (Int × Int)} (h : w[i]? = some told) : told.length ≤ 10 := by
  rw [k.tri i told h]
  have := (List.getElem?_eq_some_iff.mp h).1
  have := k.len
  have := k.n10
  omega
theorem tupIs {xs : List D} {a b : Int} (h1 : a = xs.length) (h2 : b = xs.length) : (decide (a ≤ xs.length) && decide ((xs.length : Int) ≤ b)) = true := by
  subst h1 h2; simp

/-! is_whole_times -/
def sp_is_whole_times : DSp := fun ds st P => ∃ (p : Int × Int) (n : Int), ds = [fD p, .int n] ∧ Fr p ∧ Sml 100 n ∧ p.2 ∣ p.1 * n ∧ Ret st (.bl true) P
theorem ok_is_whole_times (ds : List D) (st : Sto) (P : DP) (h : sp_is_whole_times ds st P) : w_is_whole_times (En0 P) (startE 2 ds) st := by
  obtain ⟨p, n, rfl, f, sn, dv, h⟩ := h
  refine p_retI (a := .bl (decide (p.1 * n % p.2 = 0))) (e_eq (e_mod (e_int (e_mul (e_idx (n := 0) (e_var rfl) e_c rfl) (e_var rfl) (f.s1.cm sn))) (e_idx (n := 1) (e_var rfl) e_c rfl) (by have := f.lo; have := f.hi; omega)) e_c) ?_
  rw [decide_eq_true (Int.emod_eq_zero_of_dvd dv)]
  exact h
/-! are_worths -/
def sp_are_worths : DSp := fun ds st P => ∃ o w, ds = [tI o, wsD w] ∧ Kind o w ∧ Ret st (.bl true) P
theorem ok_are_worths (ds : List D) (st : Sto) (P : DP) (h : sp_are_worths ds st P) : w_are_worths sp_is_tuple_up_to sp_is_worth (En0 P) (startE 5 ds) st := by
  obtain ⟨o, w, rfl, k, h⟩ := h
  refine p_no (u := wNext) (b_not (b := true) (b_bl (e_def3 (e_var rfl) (e_lenT (e_var rfl)) (e_lenT (e_var rfl)) fun s _ P q => ⟨_, _, _, rfl, ?_⟩))) fun s l => ?_
  · rw [tupIs (by simp [k.len]) (by simp [k.len])]
    exact Ret.evp q
  refine p_for (i_enum (Evl.sqT (e_var rfl))) (fun r env1 _ => ∃ (q m : List (List (Int × Int))) (x y z : Option D), w = q ++ m ∧ r = enumD q.length (m.map toldD) ∧ env1 = [some (tI o), some (wsD w), x, y, z]) (fun _ _ => ⟨[], w, none, none, none, rfl, rfl, rfl⟩) ?_ ?_
  · rintro x r env1 s1 l1 ⟨q, m, x1, x2, x3, e, er, ee⟩ Nx hN
    obtain ⟨a, as, em, ex, er2⟩ := enumD_cons er
    obtain ⟨told, m', rfl, rfl, rfl⟩ := map_cons em
    subst ee ex
    have hw : w[q.length]? = some told := by rw [e]; simp
    have ht := k.tri _ _ hw
    refine g2 (p_no (u := wNext) (b_or (b := false) (c := false) (b_not (b := true) (b_bl (e_def3 (e_var rfl) (e_add (e_var rfl) e_c) (e_add (e_var rfl) e_c) fun s _ P q => ⟨_, _, _, rfl, ?_⟩))) fun _ => b_not (b := true) (b_bl ?_)) fun s2 l2 => hN _ _ l2 ⟨q ++ [told], m', some (.int q.length), some (toldD told), x3, by rw [e]; simp, by rw [er2]; simp, rfl⟩)
    · rw [tupIs (by simp [ht]) (by simp [ht])]
      exact Ret.evp q
    · have := e_all (t := none) (lo := s1.length) (bs := told.map fun _ => true) (w := wLc [4] (wIter (wVar 3)) (gNm 4) wYes (wDef 1 sp_is_worth (wCons (wVar 4) wNil))) (env := [some (tI o), some (wsD w), some (.int q.length), some (toldD told), x3]) (st := s1) (by
        have := e_lc (t := none) (wi := wIter (wVar 3)) (own := [4]) (g := gNm 4) (we := wDef 1 sp_is_worth (wCons (wVar 4) wNil)) (env := [some (tI o), some (wsD w), some (.int q.length), some (toldD told), x3]) (st := s1) (xs := told.map fD) (fun _ => .bl true) nofun (i_tup (e_var rfl)) (by have := k.worths hw; simp; omega) fun x hx s l P p => by
          obtain ⟨i, hi, rfl⟩ := List.mem_map.mp hx
          exact g1 (p _ (e_def1 (e_var rfl) fun s _ P p => ⟨i, rfl, k.fr told (List.mem_of_getElem? hw) i hi, Ret.evp p⟩))
        rw [List.map_map] at this ⊢
        exact this)
      rw [all_true] at this
      exact this
  · rintro env1 s1 l1 ⟨q, m, x1, x2, x3, e, er, ee⟩
    subst ee
    dsimp only
    refine p_retI (a := .bl true) e_c ?_
    exact fun s2 l2 => h s2 ((l.trans l1).trans l2)
/-! does_go_by_squares -/
def sp_does_go_by_squares : DSp := sp_are_worths
theorem rng_cons {k n : Nat} {x : D} {r : List D} {f : Nat → D} (h : x :: r = ((List.range n).drop k).map f) : k < n ∧ x = f k ∧ r = ((List.range n).drop (k + 1)).map f := by
  by_cases hk : k < n
  · rw [List.drop_eq_getElem_cons (by simpa using hk), List.map_cons] at h
    injection h with h1 h2
    exact ⟨hk, by simpa using h1, h2⟩
  · rw [List.drop_of_length_le (by simp; omega)] at h
    cases h
theorem ok_does_go_by_squares (ds : List D) (st : Sto) (P : DP) (h : sp_does_go_by_squares ds st P) : w_does_go_by_squares sp_is_whole_times (En0 P) (startE 7 ds) st := by
  obtain ⟨o, w, rfl, k, h⟩ := h
  refine p_for (i_enum (Evl.sqT (e_var rfl))) (fun r env1 _ => ∃ (q m : List (List (Int × Int))) (x y z u v : Option D), w = q ++ m ∧ r = enumD q.length (m.map toldD) ∧ env1 = [some (tI o), some (wsD w), x, y, z, u, v]) (fun _ _ => ⟨[], w, none, none, none, none, none, rfl, rfl, rfl⟩) ?_ ?_
  · rintro x r env1 s1 l1 ⟨q, m, x1, x2, x3, x4, x5, e, er, ee⟩ Nx hN
    obtain ⟨a, as, em, ex, er2⟩ := enumD_cons er
    obtain ⟨told, m', rfl, rfl, rfl⟩ := map_cons em
    subst ee ex
    have hw : w[q.length]? = some told := by rw [e]; simp
    have ht := k.tri _ _ hw
    have hql : q.length < o.length := by rw [← k.len]; exact (List.getElem?_eq_some_iff.mp hw).1
    obtain ⟨p, hp⟩ : ∃ p, told[q.length]? = some p := ⟨_, List.getElem?_eq_getElem (by omega)⟩
    obtain ⟨oi, ho⟩ : ∃ oi, o[q.length]? = some oi := ⟨_, List.getElem?_eq_getElem hql⟩
    have fp := k.fr told (List.mem_of_getElem? hw) p (List.mem_of_getElem? hp)
    have so := k.so (List.mem_of_getElem? ho)
    obtain ⟨d1, d2⟩ := k.own _ _ _ _ hw hp ho
    refine g2 (p_par (ds := [fD p, .int oi]) (a_is (e_idx (n := q.length) (e_var rfl) (e_var rfl) (by simp [hp])) (a_is (e_idx (n := q.length) (e_var rfl) (e_var rfl) (by simp [ho])) a_nil)) rfl fun s2 l2 => ?_)
    refine p_no (u := wNext) (b_or (b := false) (c := false) (b_not (b := true) (b_bl (e_def2 (e_var rfl) (e_mul (e_var rfl) (e_var rfl) (so.cm so)) fun s _ P q => ⟨p, oi * oi, rfl, fp, (so.mul so).mono (by decide), d1, Ret.evp q⟩))) fun _ => b_not (b := true) (b_bl (e_def2 (e_var rfl) (e_mul e_c (e_var rfl) (Sml.cm (a := 2) (by unfold Sml; decide) so)) fun s _ P q => ⟨p, 2 * oi, rfl, fp, (Sml.mul (a := 2) (by unfold Sml; decide) so).mono (by decide), d2, Ret.evp q⟩))) fun s3 l3 => ?_
    refine p_for (i_rng1 (n := q.length) (e_var rfl) (by have := k.n10; omega)) (fun r env1 _ => ∃ (j : Nat) (v : Option D), r = ((List.range q.length).drop j).map (fun (i : Nat) => D.int (i : Int)) ∧ env1 = [some (tI o), some (wsD w), some (.int q.length), some (toldD told), some (fD p), some (.int oi), v]) (fun _ _ => ⟨0, x5, by simp, rfl⟩) ?_ ?_
    · rintro x r2 env2 s4 l4 ⟨j, v, er3, ee⟩ Nx2 hN2
      obtain ⟨hj, rfl, er4⟩ := rng_cons er3
      subst ee
      obtain ⟨pj, hpj⟩ : ∃ p, told[j]? = some p := ⟨_, List.getElem?_eq_getElem (by omega)⟩
      obtain ⟨oj, hoj⟩ : ∃ oi, o[j]? = some oi := ⟨_, List.getElem?_eq_getElem (by omega)⟩
      have fpj := k.fr told (List.mem_of_getElem? hw) pj (List.mem_of_getElem? hpj)
      have soj := k.so (List.mem_of_getElem? hoj)
      obtain ⟨c1, c2⟩ := k.cross _ _ _ _ _ _ hw hj hpj ho hoj
      refine g1 (p_no (u := wNext) (b_or (b := false) (c := false) (b_not (b := true) (b_bl (e_def2 (e_idx (n := j) (e_var rfl) (e_var rfl) (by simp [hpj])) (e_var rfl) fun s _ P q => ⟨pj, oi, rfl, fpj, so.mono (by decide), c1, Ret.evp q⟩))) fun _ => b_not (b := true) (b_bl (e_def2 (e_idx (n := j) (e_var rfl) (e_var rfl) (by simp [hpj])) (e_idx (n := j) (e_var rfl) (e_var rfl) (by simp [hoj])) fun s _ P q => ⟨pj, oj, rfl, fpj, soj.mono (by decide), c2, Ret.evp q⟩))) fun s5 l5 => hN2 _ _ l5 ⟨j + 1, some (.int j), er4, rfl⟩)
    · rintro env2 s4 l4 ⟨j, v, er3, ee⟩
      subst ee
      exact hN _ _ (((l2.trans l3).trans l4)) ⟨q ++ [told], m', some (.int q.length), some (toldD told), some (fD p), some (.int oi), v, by rw [e]; simp, by rw [er2]; simp, rfl⟩
  · rintro env1 s1 l1 ⟨q, m, x1, x2, x3, x4, x5, e, er, ee⟩
    subst ee
    dsimp only
    refine p_retI (a := .bl true) e_c ?_
    exact fun s2 l2 => h s2 (l1.trans l2)
/-! is_kind_by, is_row_by, size_by -/
def sp_is_kind_by : DSp := fun ds st P => ∃ o w, ds = [kD o w] ∧ Kind o w ∧ Ret st (.bl true) P
theorem ok_is_kind_by (ds : List D) (st : Sto) (P : DP) (h : sp_is_kind_by ds st P) : w_is_kind_by sp_is_tuple_up_to sp_is_from sp_product_of sp_are_worths sp_does_go_by_squares (En0 P) (startE 4 ds) st := by
  obtain ⟨o, w, rfl, k, h⟩ := h
  refine p_no (u := wNext) (b_or (b := false) (c := false) (b_not (b := true) (b_bl (e_def3 (e_var rfl) e_c e_c fun s _ P q => ⟨_, _, _, rfl, Ret.evp q⟩))) fun _ => b_not (b := true) (b_bl (e_def3 (e_idx (n := 0) (e_var rfl) e_c rfl) e_c e_c fun s _ P q => ⟨_, _, _, rfl, ?_⟩))) fun s l => ?_
  · have e : (decide ((0 : Int) ≤ (inz o).length) && decide (((inz o).length : Int) ≤ 10)) = true := by have := k.n10; simp; omega
    rw [e]; exact Ret.evp q
  refine p_asgG (e_var rfl) fun s2 l2 => g2 ?_
  dsimp only
  refine p_no (u := wNext) (b_or (b := false) (c := false) (b_not (b := true) (b_bl ?_)) fun _ => ?_) fun s3 l3 => ?_
  · have := e_all (t := none) (lo := s2.length) (bs := o.map fun _ => true) (w := wLc [3] (wIter (wVar 1)) (gNm 3) wYes (wDef 2 sp_is_from (wCons (wVar 3) (wCons (wC (.int 2)) wNil)))) (env := [some (kD o w), some (tI o), some (wsD w), none]) (st := s2) (by
      have := e_lc (t := none) (wi := wIter (wVar 1)) (own := [3]) (g := gNm 3) (we := wDef 2 sp_is_from (wCons (wVar 3) (wCons (wC (.int 2)) wNil))) (env := [some (kD o w), some (tI o), some (wsD w), none]) (st := s2) (xs := inz o) (fun _ => .bl true) nofun (i_tup (e_var rfl)) (by have := k.n10; simp; omega) fun x hx s l P p => by
        obtain ⟨i, hi, rfl⟩ := List.mem_map.mp hx
        refine g1 (p _ (e_def2 (e_var rfl) e_c fun s _ P p => ⟨i, 2, rfl, ?_⟩))
        rw [decide_eq_true (k.two i hi)]
        exact Ret.evp p
      rw [List.map_map] at this ⊢
      exact this)
    rw [all_true] at this
    exact this
  · have e : decide ((1024 : Int) < o.foldl (· * ·) 1) = false := decide_eq_false (by have := k.size; omega)
    rw [← e]
    exact b_tb (e_gt (e_def1 (e_var rfl) fun s _ P q => ⟨o, rfl, by have := k.n10; omega, fun x hx => k.so hx, Ret.evp q⟩) e_c)
  · exact p_retI (a := .bl (true && true)) (e_and (e_def2 (e_var rfl) (e_var rfl) fun s _ P q => ⟨o, w, rfl, k, Ret.evp q⟩) fun _ => e_def2 (e_var rfl) (e_var rfl) fun s _ P q => ⟨o, w, rfl, k, Ret.evp q⟩) fun s4 l4 => h s4 (((l.trans l2).trans l3).trans l4)
def sp_is_row_by : DSp := fun ds st P => ∃ o w ns, ds = [kD o w, tI ns] ∧ ns.length = o.length ∧ o.length ≤ 10 ∧ Ret st (.bl true) P
theorem ok_is_row_by (ds : List D) (st : Sto) (P : DP) (h : sp_is_row_by ds st P) : w_is_row_by sp_are_wholes (En0 P) (startE 2 ds) st := by
  obtain ⟨o, w, ns, rfl, hl, hz, h⟩ := h
  refine p_retI (e_def2 (e_var rfl) (e_lenT (e_idx (n := 0) (e_var rfl) e_c rfl)) fun s _ P q => ⟨ns, _, rfl, by omega, ?_⟩) h
  rw [decide_eq_true (by simp [hl])]
  exact Ret.evp q
def sp_size_by : DSp := fun ds st P => ∃ o w, ds = [kD o w] ∧ o.length ≤ 10 ∧ (∀ x ∈ o, Sml 11 x) ∧ Ret st (.int (o.foldl (· * ·) 1)) P
theorem ok_size_by (ds : List D) (st : Sto) (P : DP) (h : sp_size_by ds st P) : w_size_by sp_product_of (En0 P) (startE 1 ds) st := by
  obtain ⟨o, w, rfl, hl, hz, h⟩ := h
  exact p_retI (e_def1 (e_idx (n := 0) (e_var rfl) e_c rfl) fun s _ P q => ⟨o, rfl, by omega, hz, Ret.evp q⟩) h
/-! plain_by -/
def plainL (o ns : List Int) : List Int := List.zipWith (fun n x => n % x) ns o
theorem zip_map {f : Int → Int → Int} {g : D → D} (hg : ∀ n x, g (.tup [.int n, .int x]) = .int (f n x)) : ∀ ns o : List Int, (zipD (inz ns) (inz o)).map g = inz (List.zipWith f ns o)
  | [], _ => by cases ‹List Int› <;> rfl
  | _ :: _, [] => rfl
  | n :: ns, x :: o => by
    show g _ :: (zipD (inz ns) (inz o)).map g = _
    rw [zip_map hg ns o, hg]; rfl
theorem zip_mem : ∀ {ns o : List Int} {x : D}, x ∈ zipD (inz ns) (inz o) → ∃ n y, n ∈ ns ∧ y ∈ o ∧ x = .tup [.int n, .int y]
  | [], o, x, h => by cases o <;> cases h
  | _ :: _, [], x, h => by cases h
  | n :: ns, y :: o, x, h => by
    rcases List.mem_cons.mp (show x ∈ .tup [.int n, .int y] :: zipD (inz ns) (inz o) from h) with e | h
    · exact ⟨n, y, List.mem_cons_self, List.mem_cons_self, e⟩
    · obtain ⟨a, b, h1, h2, e⟩ := zip_mem h
      exact ⟨a, b, List.mem_cons_of_mem _ h1, List.mem_cons_of_mem _ h2, e⟩
theorem zip_len {ns o : List Int} : (zipD (inz ns) (inz o)).length ≤ o.length := by rw [zipD_len]; simp; omega
/-- two rows, one value from each pair -/
theorem e_zipF {t : Option Nat} {env : Ev} {st : Sto} {w u we : W} {i j : Nat} {own : List Nat} {ns o : List Int} (f : Int → Int → Int) (ht : ∀ i, t = some i → i < st.length) (h1 : Evl t w env st (Sq t (inz ns))) (h2 : Evl t u env st (Sq t (inz o))) (ho : o.length ≤ 1000)
    (he : ∀ n x, n ∈ ns → x ∈ o → ∀ s, Le t st s → Evl t we (((wipeE env own).set i (some (.int n))).set j (some (.int x))) s (Is (.int (f n x)))) :
    Evl t (wLc own (wZip (wCons w (wCons u wNil))) (gTp 2 (gsCons (gNm i) (gsCons (gNm j) gsNil))) wYes we) env st (Ls t st.length (inz (List.zipWith f ns o))) := by
  have := e_lc (own := own) (g := gTp 2 (gsCons (gNm i) (gsCons (gNm j) gsNil))) (we := we) (fun d => match d with | .tup [.int n, .int x] => .int (f n x) | _ => .non) ht (i_zip h1 h2) (by have := zip_len (ns := ns) (o := o); omega) fun x hx s l P p => by
    obtain ⟨n, y, hn, hy, rfl⟩ := zip_mem hx
    exact g2 (p _ (he n y hn hy s l))
  rwa [zip_map (f := f) (fun _ _ => rfl)] at this
def sp_plain_by : DSp := fun ds st P => ∃ o w ns, ds = [kD o w, tI ns] ∧ o.length ≤ 10 ∧ (∀ x ∈ o, 2 ≤ x) ∧ Ret st (tI (plainL o ns)) P
theorem ok_plain_by (ds : List D) (st : Sto) (P : DP) (h : sp_plain_by ds st P) : w_plain_by (En0 P) (startE 4 ds) st := by
  obtain ⟨o, w, ns, rfl, hl, hz, h⟩ := h
  exact p_retI (e_tupL (e_zipF (fun n x => n % x) nofun (Evl.sqT (e_var rfl)) (Evl.sqT (e_idx (n := 0) (e_var rfl) e_c rfl)) (by omega) fun n x _ hx s l => e_mod (e_int (e_var rfl)) (e_var rfl) (by have := hz x hx; omega))) h
end K11

set_option Elab.async false
set_option linter.all false
set_option maxRecDepth 100000
set_option maxHeartbeats 1000000
/-! k11, part d: the Reckoner. -/
namespace K11
open PySem PySem.Spec PyProof.Rows L2 DX

/-! sums by place -/
def Sm : Nat → (Nat → Int) → Int
  | 0, _ => 0
  | n + 1, f => Sm n f + f n
theorem Sm.ext {f g : Nat → Int} : ∀ {n : Nat}, (∀ i, i < n → f i = g i) → Sm n f = Sm n g
  | 0, _ => rfl
  | n + 1, h => by unfold Sm; rw [Sm.ext fun i hi => h i (Nat.lt_succ_of_lt hi), h n (Nat.lt_succ_self n)]
/-- the level -/
def lev (w : List (List (Int × Int))) : Int := lcmL (w.flatMap fun told => told.map fun p => p.2)
theorem lcmL_snoc (q : List Int) (a : Int) : lcmL (q ++ [a]) = (Int.lcm (lcmL q) a : Nat) := by unfold lcmL; rw [List.foldl_append]; rfl
theorem lcmL_facts : ∀ (q m : List Int), (∀ x ∈ q ++ m, 0 < x ∧ Sml 13 x) → 0 < lcmL q → Sml (13 * q.length + 1) (lcmL q) → (∀ x ∈ q, x ∣ lcmL q) → 0 < lcmL (q ++ m) ∧ Sml (13 * (q ++ m).length + 1) (lcmL (q ++ m)) ∧ ∀ x ∈ q ++ m, x ∣ lcmL (q ++ m)
  | q, [], _, h1, h2, h3 => by simp only [List.append_nil]; exact ⟨h1, h2, h3⟩
  | q, a :: m, h, h1, h2, h3 => by
    have e : q ++ a :: m = (q ++ [a]) ++ m := by simp
    obtain ⟨a0, a1⟩ := h a (by simp)
    rw [e]
    refine lcmL_facts (q ++ [a]) m (by rw [← e]; exact h) ?_ ?_ ?_
    · rw [lcmL_snoc]; exact lcm_pos h1 a0
    · rw [lcmL_snoc]; exact (lcm_sml h1 a0 h2 a1).mono (by simp; omega)
    · intro x hx
      rw [lcmL_snoc]
      rcases List.mem_append.mp hx with hx | hx
      · exact Int.dvd_trans (h3 x hx) (Int.dvd_lcm_left ..)
      · simp at hx; subst hx; exact Int.dvd_lcm_right ..
theorem flat_len : ∀ (w : List (List (Int × Int))) (c : Nat), (∀ told ∈ w, told.length ≤ c) → (w.flatMap fun told => told.map fun p => p.2).length ≤ c * w.length
  | [], c, _ => by simp
  | t :: w, c, h => by
    have := flat_len w c fun x hx => h x (List.mem_cons_of_mem _ hx)
    have := h t List.mem_cons_self
    simp only [List.flatMap_cons, List.length_append, List.length_map, List.length_cons, Nat.mul_succ]
    omega
section
variable {o : List Int} {w : List (List (Int × Int))}
theorem Kind.wl (k : Kind o w) : w.length ≤ 10 := by rw [k.len]; exact k.n10
theorem Kind.tl (k : Kind o w) {told : List (Int × Int)} (h : told ∈ w) : told.length ≤ 10 := by
  obtain ⟨i, hi⟩ := List.getElem?_of_mem h
  exact k.worths hi
theorem Kind.flat (k : Kind o w) : (w.flatMap fun told => told.map fun p => p.2).length ≤ 100 := by
  have := flat_len w 10 fun told h => k.tl h
  have := k.wl
  omega
theorem Kind.unders (k : Kind o w) : ∀ x ∈ w.flatMap fun told => told.map fun p => p.2, 0 < x ∧ Sml 13 x := fun x hx => by
  obtain ⟨told, h1, h2⟩ := List.mem_flatMap.mp hx
  obtain ⟨p, h3, rfl⟩ := List.mem_map.mp h2
  have f := k.fr told h1 p h3
  exact ⟨by have := f.lo; have := f.hi; omega, f.s2⟩
theorem Kind.lev_facts (k : Kind o w) : 0 < lev w ∧ Sml 1301 (lev w) ∧ ∀ told ∈ w, ∀ p ∈ told, p.2 ∣ lev w := by
  obtain ⟨h1, h2, h3⟩ := lcmL_facts [] _ k.unders (by decide) (by unfold Sml; decide) (by simp)
  refine ⟨h1, h2.mono (by have := k.flat; show 13 * (w.flatMap fun told => told.map fun p => p.2).length + 1 ≤ 1301; omega), fun told ht p hp => h3 _ ?_⟩
  exact List.mem_flatMap.mpr ⟨told, ht, List.mem_map.mpr ⟨p, hp, rfl⟩⟩
end
def itD : D → List D
  | .tup ys => ys
  | _ => []
def sndD : D → D → D := fun _ d => match d with
  | .tup [_, b] => b
  | _ => .non
def sp_level_of : DSp := fun ds st P => ∃ o w, ds = [kD o w] ∧ Kind o w ∧ Ret st (.int (lev w)) P
theorem ok_level_of (ds : List D) (st : Sto) (P : DP) (h : sp_level_of ds st P) : w_level_of sp_common_multiple (En0 P) (startE 3 ds) st := by
  obtain ⟨o, w, rfl, k, h⟩ := h
  have e : ((w.map toldD).flatMap fun x => (itD x).map (sndD x)) = inz (w.flatMap fun told => told.map fun p => p.2) := by
    simp only [List.flatMap_map, List.map_flatMap, List.map_map]
    refine congrArg (fun f => List.flatMap f w) (funext fun told => ?_)
    show List.map (sndD (toldD told)) (told.map fD) = _
    rw [List.map_map]
    rfl
  refine p_retI (e_def (Vs := [Ls none st.length (inz (w.flatMap fun told => told.map fun p => p.2))]) (a_cons ?_ a_nil mono_ls) rfl fun ds s l f P p => ?_) h
  · rw [← e]
    refine e_lc2 itD sndD nofun (i_tup (xs := w.map toldD) (e_idx (n := 1) (xs := [tI o, wsD w]) (e_var rfl) e_c rfl)) (by rw [e]; have := k.flat; simp only [inz, List.length_map]; omega) fun x hx s l P p => ?_
    obtain ⟨told, ht, rfl⟩ := List.mem_map.mp hx
    refine g1 (p _ (c_tup (e_var rfl)) fun y hy s1 P1 p1 => ?_)
    obtain ⟨q, hq, rfl⟩ := List.mem_map.mp hy
    exact g1 (p1 _ (e_idx (n := 1) (e_var rfl) e_c rfl))
  · cases f with
    | cons v f =>
      cases f
      obtain ⟨n, rfl, hn, _⟩ := v
      exact ⟨n, _, rfl, hn, k.flat, k.unders, Ret.evp p⟩
end K11

set_option Elab.async false
set_option linter.all false
set_option maxRecDepth 100000
set_option maxHeartbeats 1000000
/-! k11, part e: the Reckoner's methods. -/
namespace K11
open PySem PySem.Spec PyProof.Rows L2 DX

abbrev getF (fs : List (Str × D)) (f : Str) : Option D := fs.lookup f
/-- the share of the letter's worth at i, j -/
def partA (w : List (List (Int × Int))) (i j : Nat) : Int × Int := ((w.getD i []).getD j (0, 1))
def shr (w : List (List (Int × Int))) (i j : Nat) : Int := (partA w i j).1 * (lev w / (partA w i j).2)
def prA (w : List (List (Int × Int))) (i j : Nat) : Int := if i = j then (2 * shr w i i) % lev w else shr w (max i j) (min i j)
def ownsL (w : List (List (Int × Int))) : List Int := (List.range w.length).map fun i => shr w i i
def pairR (w : List (List (Int × Int))) (i : Nat) : List Int := (List.range w.length).map fun j => prA w i j
section
variable {o : List Int} {w : List (List (Int × Int))}
theorem partA_get (k : Kind o w) {i j : Nat} (hi : i < w.length) (hj : j ≤ i) : ∃ told, w[i]? = some told ∧ told[j]? = some (partA w i j) := by
  obtain ⟨told, h⟩ : ∃ told, w[i]? = some told := ⟨_, List.getElem?_eq_getElem hi⟩
  have ht := k.tri i told h
  refine ⟨told, h, ?_⟩
  unfold partA
  have e : w.getD i [] = told := by rw [List.getD_eq_getElem?_getD, h, Option.getD_some]
  rw [e, List.getD_eq_getElem?_getD, List.getElem?_eq_getElem (by omega), Option.getD_some]
theorem partA_fr (k : Kind o w) {i j : Nat} (hi : i < w.length) (hj : j ≤ i) : Fr (partA w i j) := by
  obtain ⟨told, h1, h2⟩ := partA_get k hi hj
  exact k.fr told (List.mem_of_getElem? h1) _ (List.mem_of_getElem? h2)
theorem partA_dvd (k : Kind o w) {i j : Nat} (hi : i < w.length) (hj : j ≤ i) : (partA w i j).2 ∣ lev w := by
  obtain ⟨told, h1, h2⟩ := partA_get k hi hj
  exact k.lev_facts.2.2 told (List.mem_of_getElem? h1) _ (List.mem_of_getElem? h2)
theorem shr_sml (k : Kind o w) {i j : Nat} (hi : i < w.length) (hj : j ≤ i) : Sml 1313 (shr w i j) :=
  ((partA_fr k hi hj).s1.mul (k.lev_facts.2.1.of_le (Int.natAbs_ediv_le_natAbs _ _))).mono (by decide)
theorem prA_sml (k : Kind o w) {i j : Nat} (hi : i < w.length) (hj : j < w.length) : Sml 1313 (prA w i j) := by
  unfold prA
  split
  · have h0 := k.lev_facts.1
    refine (k.lev_facts.2.1.mono (by decide)).of_le ?_
    have h1 := Int.emod_nonneg (2 * shr w i i) (by omega : lev w ≠ 0)
    have h2 := Int.emod_lt_of_pos (2 * shr w i i) h0
    omega
  · exact shr_sml k (by omega) (by omega)
end
/-! shares, letter_pairing -/
def sp_Reckoner_shares : DSp := fun ds st P => ∃ (r : Nat) (fs : List (Str × D)) (p : Int × Int) (L : Int), ds = [.ref r, fD p] ∧ st[r]? = some (.ins "Reckoner" fs) ∧ getF fs "level" = some (.int L) ∧ Fr p ∧ Sml 1301 L ∧ Ret st (.int (p.1 * (L / p.2))) P
theorem ok_Reckoner_shares (ds : List D) (st : Sto) (P : DP) (h : sp_Reckoner_shares ds st P) : w_Reckoner_shares (En0 P) (startE 2 ds) st := by
  obtain ⟨r, fs, p, L, rfl, hr, hf, f, sL, h⟩ := h
  exact p_retI (e_mul (e_idx (n := 0) (e_var rfl) e_c rfl) (e_div (e_fldI (e_var rfl) hr nofun hf) (e_idx (n := 1) (e_var rfl) e_c rfl) (by have := f.lo; have := f.hi; omega) (f.s2.lt (by decide))) (f.s1.cm (sL.of_le (Int.natAbs_ediv_le_natAbs _ _)))) h
def sp_Reckoner_letter_pairing : DSp := fun ds st P => ∃ (r a : Nat) (fs : List (Str × D)) (o : List Int) (w : List (List (Int × Int))) (i j : Nat), ds = [.ref r, .int i, .int j] ∧ st[r]? = some (.ins "Reckoner" fs) ∧ getF fs "level" = some (.int (lev w)) ∧
  getF fs "kind" = some (kD o w) ∧ getF fs "owns" = some (.ref a) ∧ st[a]? = some (.lst (inz (ownsL w))) ∧ getF fs "shares" = none ∧ Kind o w ∧ i < w.length ∧ j < w.length ∧ Ret st (.int (prA w i j)) P
theorem ok_Reckoner_letter_pairing (ds : List D) (st : Sto) (P : DP) (h : sp_Reckoner_letter_pairing ds st P) : w_Reckoner_letter_pairing sp_Reckoner_shares (En0 P) (startE 3 ds) st := by
  obtain ⟨r, a, fs, o, w, i, j, rfl, hr, hL, hk, ho, ha, hs, k, hi, hj, h⟩ := h
  obtain ⟨L0, L1, L2⟩ := k.lev_facts
  refine q_if (t := none) (b := decide ((i : Int) = (j : Int))) (b_tb (e_eq (e_var rfl) (e_var rfl))) (fun e s l => ?_) fun e s l => ?_
  · have e : i = j := by have := of_decide_eq_true e; omega
    subst e
    refine p_retI (a := .int (prA w i i)) ?_ fun s2 l2 => h s2 (l.trans l2)
    have : prA w i i = 2 * shr w i i % lev w := by unfold prA; rw [if_pos rfl]
    rw [this]
    refine e_mod (e_int (e_mul e_c (e_idxL (n := i) (lo := 0) (e_fld (V := Ls none 0 (inz (ownsL w))) (e_var rfl) (l.get hr nofun) nofun ho mono_ls ⟨a, rfl, l.get ha nofun, nofun, Nat.zero_le _⟩) (e_var rfl) ?_) (Sml.cm (a := 2) (by unfold Sml; decide) (shr_sml k hi (Nat.le_refl _))))) (e_fldI (e_var rfl) (l.get hr nofun) nofun hL) L0
    unfold ownsL
    simp [hi]
  · have e : i ≠ j := by have := of_decide_eq_false e; omega
    have hmx : max (i : Int) (j : Int) = ((max i j : Nat) : Int) := by omega
    have hmn : min (i : Int) (j : Int) = ((min i j : Nat) : Int) := by omega
    obtain ⟨told, t1, t2⟩ := partA_get k (i := max i j) (j := min i j) (by omega) (by omega)
    have fr := partA_fr k (i := max i j) (j := min i j) (by omega) (by omega)
    unfold wNext
    dsimp only
    refine p_retI (a := .int (prA w i j)) (E := En0 P) ?_ fun s2 l2 => h s2 (l.trans l2)
    have e2 : prA w i j = (partA w (max i j) (min i j)).1 * (lev w / (partA w (max i j) (min i j)).2) := by unfold prA shr; rw [if_neg e]
    rw [e2]
    have em : Evl none (wCall (on2 rMax2) (wCons (wVar 1) (wCons (wVar 2) wNil))) (startE 3 [.ref r, .int i, .int j]) s (Is (.int ((max i j : Nat) : Int))) := by rw [← hmx]; exact e_max2 (e_var rfl) (e_var rfl)
    have en : Evl none (wCall (on2 rMin2) (wCons (wVar 1) (wCons (wVar 2) wNil))) (startE 3 [.ref r, .int i, .int j]) s (Is (.int ((min i j : Nat) : Int))) := by rw [← hmn]; exact e_min2 (e_var rfl) (e_var rfl)
    refine e_mt1 (e_var rfl) (l.get hr nofun) nofun hs (a := fD (partA w (max i j) (min i j))) (e_idx (n := min i j) (e_idx (n := max i j) (xs := w.map toldD) (d := toldD told) (e_idx (n := 1) (xs := [tI o, wsD w]) (e_fldI (e_var rfl) (l.get hr nofun) nofun hk) e_c rfl) em (by simp [t1])) en (by simp [t2])) fun s2 l2 P p => ⟨r, fs, _, _, rfl, (l.trans l2).get hr nofun, hL, fr, L1, Ret.evp p⟩
/-! the whole record -/
abbrev recF (o : List Int) (w : List (List (Int × Int))) (a b c : Nat) : List (Str × D) := [("kind", kD o w), ("orders", tI o), ("many", .int o.length), ("level", .int (lev w)), ("owns", .ref a), ("pairs", .ref b), ("known", .ref c)]
def RecAt (o : List Int) (w : List (List (Int × Int))) (r : Nat) (s : Sto) : Prop := ∃ a b c, s[r]? = some (.ins "Reckoner" (recF o w a b c)) ∧ Ls none 0 (inz (ownsL w)) (.ref a) s ∧ LsV none 0 ((List.range w.length).map fun i => Ls none 0 (inz (pairR w i))) (.ref b) s
theorem RecAt.le {o w} {r : Nat} {s s' : Sto} (h : RecAt o w r s) (l : Le none s s') : RecAt o w r s' := by
  obtain ⟨a, b, c, h1, h2, h3⟩ := h
  refine ⟨a, b, c, l.get h1 nofun, mono_ls _ _ _ h2 l, mono_lsv (fun V hV => ?_) _ _ _ h3 l⟩
  obtain ⟨i, _, rfl⟩ := List.mem_map.mp hV
  exact mono_ls
theorem mono_prs {w : List (List (Int × Int))} : ∀ V ∈ (List.range w.length).map fun i => Ls none 0 (inz (pairR w i)), Mono none V := fun V hV => by
  obtain ⟨i, _, rfl⟩ := List.mem_map.mp hV
  exact mono_ls
/-! told, order -/
def sp_Reckoner_told : DSp := fun ds st P => ∃ (r : Nat) (o : List Int) (w : List (List (Int × Int))) (x : Int), ds = [.ref r, .int x] ∧ RecAt o w r st ∧ Kind o w ∧ Ret st (frD x (lev w)) P
theorem ok_Reckoner_told (ds : List D) (st : Sto) (P : DP) (h : sp_Reckoner_told ds st P) : w_Reckoner_told sp_fraction (En0 P) (startE 2 ds) st := by
  obtain ⟨r, o, w, x, rfl, ⟨a, b, c, hr, _⟩, k, h⟩ := h
  obtain ⟨L0, L1, _⟩ := k.lev_facts
  exact p_retI (e_def2 (e_var rfl) (e_fldI (e_var rfl) hr nofun rfl) fun s l P p => ⟨x, lev w, rfl, L0, L1.lt (by decide), Ret.evp p⟩) h
def orderL (o ns : List Int) : Int := lcmL (List.zipWith (fun x n => x / (Int.gcd x n : Nat)) o ns)
theorem quo_facts {x n : Int} (h2 : 2 ≤ x) (h3 : x ≤ 1024) : 0 < x / (Int.gcd x n : Nat) ∧ Sml 13 (x / (Int.gcd x n : Nat)) := by
  have hg : 0 < Int.gcd x n := Int.gcd_pos_of_ne_zero_left _ (by omega)
  have hd : (Int.gcd x n : Int) ∣ x := Int.gcd_dvd_left ..
  have hle : (Int.gcd x n : Int) ≤ x := Int.le_of_dvd (by omega) hd
  refine ⟨Int.ediv_pos_of_pos_of_dvd (by omega) (by omega) hd, ?_⟩
  have : Sml 13 x := by unfold Sml; show _ < 8192; omega
  exact this.of_le (Int.natAbs_ediv_le_natAbs _ _)
theorem order_mem {o ns : List Int} (h2 : ∀ x ∈ o, 2 ≤ x ∧ x ≤ 1024) : ∀ y ∈ List.zipWith (fun x n => x / (Int.gcd x n : Nat)) o ns, 0 < y ∧ Sml 13 y := fun y hy => by
  induction o generalizing ns with
  | nil => simp at hy
  | cons x o ih =>
    cases ns with
    | nil => simp at hy
    | cons n ns =>
      rcases List.mem_cons.mp (show y ∈ _ :: List.zipWith _ o ns from hy) with e | e
      · rw [e]; obtain ⟨a, b⟩ := h2 x List.mem_cons_self; exact quo_facts a b
      · exact ih (fun z hz => h2 z (List.mem_cons_of_mem _ hz)) e
def sp_Reckoner_order : DSp := fun ds st P => ∃ (r : Nat) (o : List Int) (w : List (List (Int × Int))) (ns : List Int), ds = [.ref r, tI ns] ∧ RecAt o w r st ∧ Kind o w ∧ ns.length = o.length ∧ Ret st (.int (orderL o ns)) P
theorem ok_Reckoner_order (ds : List D) (st : Sto) (P : DP) (h : sp_Reckoner_order ds st P) : w_Reckoner_order sp_common_multiple sp_common_divisor (En0 P) (startE 4 ds) st := by
  obtain ⟨r, o, w, ns, rfl, ⟨a, b, c, hr, _⟩, k, hl, h⟩ := h
  refine p_retI (e_def (Vs := [Ls none st.length (inz (List.zipWith (fun x n => x / (Int.gcd x n : Nat)) o ns))]) (a_cons ?_ a_nil mono_ls) rfl fun ds s l f P p => ?_) h
  · refine e_zipF _ nofun (Evl.sqT (e_fldI (e_var rfl) hr nofun rfl)) (Evl.sqT (e_var rfl)) (by have := k.n10; omega) fun x n hx _ s l => ?_
    have h2 := k.two x hx
    have h3 := k.hi x hx
    have hg : 0 < Int.gcd x n := Int.gcd_pos_of_ne_zero_left _ (by omega)
    have hle : (Int.gcd x n : Int) ≤ x := Int.le_of_dvd (by omega) (Int.gcd_dvd_left ..)
    exact e_div (e_var rfl) (e_def2 (e_var rfl) (e_var rfl) fun s _ P p => ⟨x, n, rfl, Ret.evp p⟩) (by omega) (by have := (k.so hx).lt (by decide); omega)
  · cases f with
    | cons v f =>
      cases f
      obtain ⟨n, rfl, hn, _⟩ := v
      refine ⟨n, _, rfl, hn, ?_, order_mem fun x hx => ⟨k.two x hx, k.hi x hx⟩, Ret.evp p⟩
      simp only [List.length_zipWith]
      have := k.n10
      omega
end K11

set_option Elab.async false
set_option linter.all false
set_option maxRecDepth 100000
set_option maxHeartbeats 1000000
/-! k11, part f: worth, pairing. -/
namespace K11
open PySem PySem.Spec PyProof.Rows L2 DX

theorem Sm.head : ∀ (n : Nat) (f : Nat → Int), Sm (n + 1) f = f 0 + Sm n fun i => f (i + 1)
  | 0, f => by simp [Sm]
  | n + 1, f => by
    rw [show Sm (n + 2) f = Sm (n + 1) f + f (n + 1) from rfl, Sm.head n f, show Sm (n + 1) (fun i => f (i + 1)) = Sm n (fun i => f (i + 1)) + f (n + 1) from rfl]
    omega
theorem sml0 {b : Nat} : Sml b 0 := Nat.pow_pos (by decide)
theorem Sm.sml {b : Nat} {f : Nat → Int} : ∀ {n : Nat}, (∀ i, i < n → Sml b (f i)) → Sml (b + n) (Sm n f)
  | 0, _ => sml0
  | n + 1, h => (Sml.add (Sm.sml fun i hi => h i (Nat.lt_succ_of_lt hi)) ((h n (Nat.lt_succ_self n)).mono (Nat.le_add_right _ _)))
theorem sum_zip : ∀ (xs ys : List Int), (List.zipWith (· * ·) xs ys).sum = Sm (min xs.length ys.length) fun j => xs.getD j 0 * ys.getD j 0
  | [], ys => by simp [Sm]
  | x :: xs, [] => by simp [Sm]
  | x :: xs, y :: ys => by
    rw [List.zipWith_cons_cons, List.sum_cons, sum_zip xs ys, List.length_cons, List.length_cons, Nat.succ_min_succ, Sm.head]
    rfl
abbrev rf (ns : List Int) : Nat → Int := fun i => ns.getD i 0
theorem rf_sml {ns : List Int} {b : Nat} (h : ∀ x ∈ ns, Sml b x) (i : Nat) : Sml b (rf ns i) := by
  unfold rf
  rw [List.getD_eq_getElem?_getD]
  cases e : ns[i]? with
  | none => exact sml0
  | some x => exact h x (List.mem_of_getElem? e)
theorem rf_take {ns : List Int} {a j : Nat} (h : j < a) : rf (ns.take a) j = rf ns j := by
  unfold rf
  rw [List.getD_eq_getElem?_getD, List.getD_eq_getElem?_getD, List.getElem?_take_of_lt h]
theorem rf_map {n j : Nat} {f : Nat → Int} (h : j < n) : rf ((List.range n).map f) j = f j := by
  unfold rf
  rw [List.getD_eq_getElem?_getD]
  simp [h]
/-- the worth of the first letters -/
def Qf (w : List (List (Int × Int))) (r : Nat → Int) : Nat → Int
  | 0 => 0
  | k + 1 => Qf w r k + r k * (r k * shr w k k + Sm k fun j => r j * prA w k j)
def Bf (w : List (List (Int × Int))) (r u : Nat → Int) : Nat → Int
  | 0 => 0
  | k + 1 => Bf w r u k + r k * Sm w.length fun j => u j * prA w k j
theorem across_eq {w : List (List (Int × Int))} {ns : List Int} {a : Nat} (h : a ≤ w.length) (hn : ns.length = w.length) : (List.zipWith (· * ·) (ns.take a) (pairR w a)).sum = Sm a fun j => rf ns j * prA w a j := by
  rw [sum_zip]
  have e : min (ns.take a).length (pairR w a).length = a := by unfold pairR; simp; omega
  rw [e]
  refine Sm.ext fun j hj => ?_
  rw [show (ns.take a).getD j 0 = rf (ns.take a) j from rfl, rf_take hj, show (pairR w a).getD j 0 = rf (pairR w a) j from rfl, show rf (pairR w a) j = prA w a j from rf_map (by omega)]
theorem along_eq {w : List (List (Int × Int))} {us : List Int} {a : Nat} (hn : us.length = w.length) : (List.zipWith (· * ·) us (pairR w a)).sum = Sm w.length fun j => rf us j * prA w a j := by
  rw [sum_zip]
  have e : min us.length (pairR w a).length = w.length := by unfold pairR; simp; omega
  rw [e]
  refine Sm.ext fun j hj => ?_
  rw [show (pairR w a).getD j 0 = rf (pairR w a) j from rfl, show rf (pairR w a) j = prA w a j from rf_map hj]
section
variable {o : List Int} {w : List (List (Int × Int))}
theorem across_sml (k : Kind o w) {r : Nat → Int} {a n : Nat} (ha : a < w.length) (hn : n ≤ w.length) (h : ∀ i, Sml 400 (r i)) : Sml 1723 (Sm n fun j => r j * prA w a j) := by
  have := k.wl
  exact (Sm.sml (b := 1713) fun i hi => ((h i).mul (prA_sml k ha (by omega))).mono (by decide)).mono (by omega)
theorem in_sml (k : Kind o w) {r : Nat → Int} {a : Nat} (ha : a < w.length) (h : ∀ i, Sml 400 (r i)) : Sml 1724 (r a * shr w a a + Sm a fun j => r j * prA w a j) :=
  Sml.add (((h a).mul (shr_sml k ha (Nat.le_refl _))).mono (by decide)) (across_sml k ha (Nat.le_of_lt ha) h)
theorem Qf_sml (k : Kind o w) {r : Nat → Int} (h : ∀ i, Sml 400 (r i)) : ∀ {n : Nat}, n ≤ w.length → Sml (2130 + n) (Qf w r n)
  | 0, _ => sml0
  | n + 1, hn => Sml.add (Qf_sml k h (by omega)) (((h n).mul (in_sml k (by omega) h)).mono (by show 400 + 1724 ≤ 2130 + n; omega))
theorem Bf_sml (k : Kind o w) {r u : Nat → Int} (h : ∀ i, Sml 400 (r i)) (hu : ∀ i, Sml 400 (u i)) : ∀ {n : Nat}, n ≤ w.length → Sml (2130 + n) (Bf w r u n)
  | 0, _ => sml0
  | n + 1, hn => Sml.add (Bf_sml k h hu (by omega)) (((h n).mul (across_sml k (by omega) (Nat.le_refl _) hu)).mono (by show 400 + 1723 ≤ 2130 + n; omega))
end
def sp_Reckoner_worth : DSp := fun ds st P => ∃ (r : Nat) (o : List Int) (w : List (List (Int × Int))) (ns : List Int), ds = [.ref r, tI ns] ∧ RecAt o w r st ∧ Kind o w ∧ ns.length = w.length ∧ (∀ x ∈ ns, Sml 400 x) ∧ Ret st (.int (Qf w (rf ns) w.length % lev w)) P
theorem ok_Reckoner_worth (ds : List D) (st : Sto) (P : DP) (h : sp_Reckoner_worth ds st P) : w_Reckoner_worth (En0 P) (startE 8 ds) st := by
  obtain ⟨r, o, w, ns, rfl, ⟨a, b, c, hr, hown, hprs⟩, k, hl, hb, h⟩ := h
  have hrf := fun i => rf_sml hb i
  refine p_asgI e_c fun s l => ?_
  refine p_for (i_enum (Evl.sqT (e_var rfl))) (fun re env1 _ => ∃ (q m : List Int) (x3 x4 x5 x6 x7 : Option D), ns = q ++ m ∧ re = enumD q.length (inz m) ∧ env1 = [some (.ref r), some (tI ns), some (.int (Qf w (rf ns) q.length)), x3, x4, x5, x6, x7]) (fun _ _ => ⟨[], ns, none, none, none, none, none, rfl, rfl, rfl⟩) ?_ ?_
  · rintro x re env1 s1 l1 ⟨q, m, x3, x4, x5, x6, x7, e, er, ee⟩ Nx hN
    obtain ⟨d, as, em, ex, er2⟩ := enumD_cons er
    obtain ⟨y, m', rfl, rfl, rfl⟩ := map_cons em
    subst ee ex
    have hq : q.length < w.length := by rw [← hl, e]; simp
    have ey : rf ns q.length = y := by unfold rf; rw [List.getD_eq_getElem?_getD, e]; simp
    have sy : Sml 400 y := hb y (by rw [e]; simp)
    have l01 := l.trans l1
    refine g2 (q_if (t := none) (b := !decide (y = 0)) (b_tb (e_ne (e_var rfl) e_c)) (fun _ s2 l2 => ?_) fun hz s2 l2 => ?_)
    · have l02 := l01.trans l2
      have hr2 := l02.get hr nofun
      refine p_asgI (e_sumL (lo := s2.length) (ns := List.zipWith (· * ·) (ns.take q.length) (pairR w q.length)) (e_zipF (fun n x => n * x) nofun (Evl.sqT (xs := inz (ns.take q.length)) (by rw [show inz (ns.take q.length) = (inz ns).take q.length from List.map_take]; exact e_to (e_var rfl) (e_var rfl)))
        (Evl.sqL (lo := 0) (xs := inz (pairR w q.length)) (e_idxV (n := q.length) (e_fld (e_var rfl) hr2 nofun rfl (mono_lsv mono_prs) (mono_lsv mono_prs _ _ _ hprs l02)) (e_var rfl) mono_prs (by simp [hq]))) (by unfold pairR; have := k.wl; simp; omega) fun n x hn hx s3 l3 => ?_)) fun s3 l3 => ?_
      · have s1 : Sml 400 n := hb n (List.mem_of_mem_take hn)
        obtain ⟨j, hj, rfl⟩ := List.mem_map.mp hx
        exact e_mul (e_var rfl) (e_var rfl) (s1.cm (prA_sml k hq (List.mem_range.mp hj)))
      · rw [across_eq (by omega) hl]
        have l03 := l02.trans l3
        have so := shr_sml k hq (Nat.le_refl _)
        have si := in_sml k hq hrf
        rw [ey] at si
        refine p_asgI (e_add (e_var rfl) (e_mul (e_var rfl) (e_add (e_mul (e_var rfl) (e_idxL (n := q.length) (lo := 0) (e_fld (e_var rfl) (l03.get hr nofun) nofun rfl mono_ls (mono_ls _ _ _ hown l03)) (e_var rfl) (d := .int (shr w q.length q.length)) (by unfold ownsL; simp [hq])) (sy.cm so)) (e_var rfl)) (sy.cm si))) fun s4 l4 => ?_
        refine hN _ _ ((l2.trans l3).trans l4) ⟨q ++ [y], m', some (.int q.length), some (.int y), some (.int (Sm q.length fun j => rf ns j * prA w q.length j)), x6, x7, by rw [e]; simp, by rw [er2]; simp, ?_⟩
        have : Qf w (rf ns) (q ++ [y]).length = Qf w (rf ns) q.length + y * (y * shr w q.length q.length + Sm q.length fun j => rf ns j * prA w q.length j) := by
          rw [List.length_append]; show Qf w (rf ns) (q.length + 1) = _
          rw [← ey]; rfl
        rw [this]
        rfl
    · have hy : y = 0 := by simpa using hz
      refine hN _ _ l2 ⟨q ++ [y], m', some (.int q.length), some (.int y), x5, x6, x7, by rw [e]; simp, by rw [er2]; simp, ?_⟩
      have : Qf w (rf ns) (q ++ [y]).length = Qf w (rf ns) q.length := by
        rw [List.length_append]; show Qf w (rf ns) q.length + rf ns q.length * _ = _
        rw [ey, hy, Int.zero_mul, Int.add_zero]
      rw [this]
      rfl
  · rintro env1 s1 l1 ⟨q, m, x3, x4, x5, x6, x7, e, er, ee⟩
    have hm : m = [] := by
      cases m with
      | nil => rfl
      | cons y m => cases er
    subst ee hm
    rw [List.append_nil] at e
    subst e
    have l01 := l.trans l1
    dsimp only
    refine p_retI (a := .int (Qf w (rf ns) w.length % lev w)) (E := En0 P) ?_ fun s2 l2 => h s2 (l01.trans l2)
    rw [← hl]
    exact e_mod (e_int (e_var rfl)) (e_fldI (e_var rfl) (l01.get hr nofun) nofun rfl) k.lev_facts.1
def sp_Reckoner_pairing : DSp := fun ds st P => ∃ (r : Nat) (o : List Int) (w : List (List (Int × Int))) (ns us : List Int), ds = [.ref r, tI ns, tI us] ∧ RecAt o w r st ∧ Kind o w ∧ ns.length = w.length ∧ us.length = w.length ∧ (∀ x ∈ ns, Sml 400 x) ∧ (∀ x ∈ us, Sml 400 x) ∧ Ret st (.int (Bf w (rf ns) (rf us) w.length % lev w)) P
theorem ok_Reckoner_pairing (ds : List D) (st : Sto) (P : DP) (h : sp_Reckoner_pairing ds st P) : w_Reckoner_pairing (En0 P) (startE 8 ds) st := by
  obtain ⟨r, o, w, ns, us, rfl, ⟨a, b, c, hr, hown, ⟨b', ys, eb, hys, _, _, hf2⟩⟩, k, hl, hlu, hb, hbu, h⟩ := h
  cases eb
  have hrf := fun i => rf_sml hb i
  have hru := fun i => rf_sml hbu i
  have hyl : ys.length = w.length := by rw [← hf2.len]; simp
  refine p_asgI e_c fun s l => ?_
  refine p_for (i_zip (Evl.sqT (e_var rfl)) (Evl.sqL (lo := 0) (xs := ys) (e_fld (e_var rfl) (l.get hr nofun) nofun rfl mono_ls ⟨b, rfl, l.get hys nofun, nofun, Nat.zero_le _⟩))) (fun re env1 _ => ∃ (q m : List Int) (qy my : List D) (x4 x5 x6 x7 : Option D), ns = q ++ m ∧ ys = qy ++ my ∧ q.length = qy.length ∧ re = zipD (inz m) my ∧ env1 = [some (.ref r), some (tI ns), some (tI us), some (.int (Bf w (rf ns) (rf us) q.length)), x4, x5, x6, x7]) (fun _ _ => ⟨[], ns, [], ys, none, none, none, none, rfl, rfl, rfl, rfl, rfl⟩) ?_ ?_
  · rintro x re env1 s1 l1 ⟨q, m, qy, my, x4, x5, x6, x7, e, ey', eq, er, ee⟩ Nx hN
    obtain ⟨d, as, d2, bs, em, emy, ex, er2⟩ := zipD_cons er
    obtain ⟨y, m', rfl, rfl, rfl⟩ := map_cons em
    subst ee ex emy
    have hq : q.length < w.length := by rw [← hl, e]; simp
    have ey : rf ns q.length = y := by unfold rf; rw [List.getD_eq_getElem?_getD, e]; simp
    have sy : Sml 400 y := hb y (by rw [e]; simp)
    have l01 := l.trans l1
    obtain ⟨y2, hy2, v2⟩ := hf2.get (n := q.length) (V := Ls none 0 (inz (pairR w q.length))) (by simp [hq])
    have e2 : y2 = d2 := by
      rw [ey', eq] at hy2
      simpa using hy2.symm
    subst e2
    refine g2 (q_if (t := none) (b := !decide (y = 0)) (b_tb (e_ne (e_var rfl) e_c)) (fun _ s2 l2 => ?_) fun hz s2 l2 => ?_)
    · have l02 := l01.trans l2
      have sa := across_sml k hq (Nat.le_refl _) hru
      refine p_asgI (a := .int (Bf w (rf ns) (rf us) q.length + y * Sm w.length fun j => rf us j * prA w q.length j)) (e_add (e_var rfl) (e_mul (e_var rfl) ?_ (sy.cm sa))) fun s4 l4 => ?_
      · rw [← along_eq hlu]
        refine e_sumL (lo := s2.length) (e_zipF (fun n x => n * x) nofun (Evl.sqT (e_var rfl)) (Evl.sqL (lo := 0) (xs := inz (pairR w q.length)) (e_varV rfl mono_ls (mono_ls _ _ _ v2 l02))) (by unfold pairR; have := k.wl; simp; omega) fun n x hn hx s3 l3 => ?_)
        obtain ⟨j, hj, rfl⟩ := List.mem_map.mp hx
        exact e_mul (e_var rfl) (e_var rfl) ((hbu n hn).cm (prA_sml k hq (List.mem_range.mp hj)))
      · refine hN _ _ (l2.trans l4) ⟨q ++ [y], m', qy ++ [y2], bs, some (.int y), some y2, x6, x7, by rw [e]; simp, by rw [ey']; simp, by simp [eq], er2, ?_⟩
        have : Bf w (rf ns) (rf us) (q ++ [y]).length = Bf w (rf ns) (rf us) q.length + y * Sm w.length fun j => rf us j * prA w q.length j := by
          rw [List.length_append]; show Bf w (rf ns) (rf us) (q.length + 1) = _
          rw [← ey]; rfl
        rw [this]
        rfl
    · have hy : y = 0 := by simpa using hz
      refine hN _ _ l2 ⟨q ++ [y], m', qy ++ [y2], bs, some (.int y), some y2, x6, x7, by rw [e]; simp, by rw [ey']; simp, by simp [eq], er2, ?_⟩
      have : Bf w (rf ns) (rf us) (q ++ [y]).length = Bf w (rf ns) (rf us) q.length := by
        rw [List.length_append]; show Bf w (rf ns) (rf us) q.length + rf ns q.length * _ = _
        rw [ey, hy, Int.zero_mul, Int.add_zero]
      rw [this]
      rfl
  · rintro env1 s1 l1 ⟨q, m, qy, my, x4, x5, x6, x7, e, ey', eq, er, ee⟩
    have hm : m = [] := by
      have h1 : q.length + m.length = qy.length + my.length := by rw [← List.length_append, ← e, ← List.length_append, ← ey', hl, hyl]
      cases m with
      | nil => rfl
      | cons y m =>
        cases my with
        | nil => simp at h1; omega
        | cons z my => cases er
    subst ee hm
    rw [List.append_nil] at e
    subst e
    have l01 := l.trans l1
    dsimp only
    refine p_retI (a := .int (Bf w (rf ns) (rf us) w.length % lev w)) (E := En0 P) ?_ fun s2 l2 => h s2 (l01.trans l2)
    rw [← hl]
    exact e_mod (e_int (e_var rfl)) (e_fldI (e_var rfl) (l01.get hr nofun) nofun rfl) k.lev_facts.1
end K11

set_option Elab.async false
set_option linter.all false
set_option maxRecDepth 100000
set_option maxHeartbeats 1000000
/-! k11, part g: a Reckoner is made; worth_by, pairing_by, order_by; the ways in. -/
namespace K11
open PySem PySem.Spec PyProof.Rows L2 DX

/-- all but the object at r is as it was -/
theorem setR {st s : Sto} {r : Nat} {o : O} (l : LeN r none st s) : LeN r none st (s.set r o) :=
  ⟨by simpa using l.len, fun i h h1 h2 => (List.getElem?_set_ne (Ne.symm h1)).trans (l.eq i h h1 h2), nofun⟩
theorem LeN.get' {st s : Sto} {r i : Nat} {o : O} (l : LeN r none st s) (h : st[i]? = some o) (hi : i ≠ r) : s[i]? = some o := (l.eq i (lt_of_get h) hi nofun).trans h
def sp_Reckoner___init__ : DSp := fun ds st P => ∃ (o : List Int) (w : List (List (Int × Int))) (s0 : Sto), ds = [.ref s0.length, kD o w] ∧ st = s0 ++ [.ins "Reckoner" []] ∧ Kind o w ∧ ∀ s, Le none s0 s → RecAt o w s0.length s → P .non s
theorem mlo_lsm {lo : Nat} {xs : List D} : MonoLo lo none (Ls none lo xs) := mlo_ls
theorem own_list {o w} (k : Kind o w) : ∀ (q : Nat) (m : List (List (Int × Int))), q + m.length = w.length → w.drop q = m → (enumD q (m.map toldD)).map (fun d => match d with | .tup [.int i, _] => D.int (shr w i.toNat i.toNat) | _ => .non) = ((List.range w.length).drop q).map fun i => D.int (shr w i i)
  | q, [], h, _ => by
    rw [List.drop_of_length_le (by simp; simp at h; omega)]; rfl
  | q, told :: m, h, hd => by
    have hq : q < w.length := by simp at h; omega
    rw [List.drop_eq_getElem_cons (by simpa using hq)]
    show D.int _ :: (enumD (q + 1) (m.map toldD)).map _ = _
    rw [own_list k (q + 1) m (by simp at h; omega) (by rw [← List.drop_drop, hd]; rfl)]
    simp
theorem ok_Reckoner___init__ (ds : List D) (st : Sto) (P : DP) (h : sp_Reckoner___init__ ds st P) : w_Reckoner___init__ sp_level_of sp_Reckoner_shares sp_Reckoner_letter_pairing (En0 P) (startE 6 ds) st := by
  obtain ⟨o, w, s0, rfl, rfl, k, h⟩ := h
  obtain ⟨L0, L1, _⟩ := k.lev_facts
  have hr0 : (s0 ++ [.ins "Reckoner" []])[s0.length]? = some (O.ins "Reckoner" []) := by simp
  have l0 : LeN s0.length none s0 (s0 ++ [.ins "Reckoner" []]) := (Le.push (t := none)).toN
  generalize hrr : s0.length = r at *
  -- kind, orders
  refine p_asgG (e_tup (ds := [kD o w, tI o]) (a_is (e_var rfl) (a_is (e_idx (n := 0) (xs := [tI o, wsD w]) (e_var rfl) e_c rfl) a_nil)) (Nat.le_of_ble_eq_true rfl)) fun s1 l1 => ?_
  have hr1 := l1.get hr0 nofun
  refine ⟨_, rfl, rfl, _, _, rfl, ⟨_, rfl, r, [], rfl, hr1, Nat.zero_lt_succ _, _, _, rfl, ⟨_, rfl, r, [("kind", kD o w)], rfl, List.getElem?_set_self (lt_of_get hr1), by simp, ?_⟩⟩⟩
  refine ⟨rfl, ?_⟩
  have hq1 : ((s1.set r (.ins "Reckoner" (putD "kind" (kD o w) []))).set r (.ins "Reckoner" (putD "orders" (tI o) [("kind", kD o w)])))[r]? = some (.ins "Reckoner" [("kind", kD o w), ("orders", tI o)]) := List.getElem?_set_self (by simpa using lt_of_get hr1)
  have lq1 : LeN r none s0 ((s1.set r (.ins "Reckoner" (putD "kind" (kD o w) []))).set r (.ins "Reckoner" (putD "orders" (tI o) [("kind", kD o w)]))) := setR (setR (l0.trans l1.toN))
  generalize ((s1.set r (.ins "Reckoner" (putD "kind" (kD o w) []))).set r (.ins "Reckoner" (putD "orders" (tI o) [("kind", kD o w)]))) = t1 at hq1 lq1 ⊢
  -- many
  dsimp only
  refine p_fset (i := 0) (V := Is (.int o.length)) (r := r) (by have := e_lenT (t := none) (st := t1) (env := startE 6 [.ref r, kD o w]) (w := wBin rIdx (wVar 1) (wC (.int 0))) (xs := inz o) (e_idx (n := 0) (xs := [tI o, wsD w]) (e_var rfl) e_c rfl); simpa only [List.length_map] using this) rfl hq1 (by simp) fun d s2 l2 e2 => ?_
  cases e2
  have hq2 : (s2.set r (.ins "Reckoner" (putD "many" (.int o.length) [("kind", kD o w), ("orders", tI o)])))[r]? = some (.ins "Reckoner" [("kind", kD o w), ("orders", tI o), ("many", .int o.length)]) := List.getElem?_set_self (lt_of_get (l2.get hq1 nofun))
  have lq2 : LeN r none s0 (s2.set r (.ins "Reckoner" (putD "many" (.int o.length) [("kind", kD o w), ("orders", tI o)]))) := setR (lq1.trans l2.toN)
  generalize (s2.set r (.ins "Reckoner" (putD "many" (.int o.length) [("kind", kD o w), ("orders", tI o)]))) = t2 at hq2 lq2 ⊢
  -- level
  dsimp only
  refine p_fset (i := 0) (V := Is (.int (lev w))) (r := r) (e_def1 (e_var rfl) fun s _ P p => ⟨o, w, rfl, k, Ret.evp p⟩) rfl hq2 (by simp) fun d s3 l3 e3 => ?_
  cases e3
  have hq3 : (s3.set r (.ins "Reckoner" (putD "level" (.int (lev w)) [("kind", kD o w), ("orders", tI o), ("many", .int o.length)])))[r]? = some (.ins "Reckoner" [("kind", kD o w), ("orders", tI o), ("many", .int o.length), ("level", .int (lev w))]) := List.getElem?_set_self (lt_of_get (l3.get hq2 nofun))
  have lq3 : LeN r none s0 (s3.set r (.ins "Reckoner" (putD "level" (.int (lev w)) [("kind", kD o w), ("orders", tI o), ("many", .int o.length)]))) := setR (lq2.trans l3.toN)
  generalize (s3.set r (.ins "Reckoner" (putD "level" (.int (lev w)) [("kind", kD o w), ("orders", tI o), ("many", .int o.length)]))) = t3 at hq3 lq3 ⊢
  -- owns
  dsimp only
  refine p_fset (i := 0) (V := Ls none t3.length (inz (ownsL w))) (r := r) ?_ rfl hq3 (by simp) fun d s4 l4 v4 => ?_
  · have e := own_list k 0 w (by simp) rfl
    have e2 : inz (ownsL w) = ((List.range w.length).drop 0).map fun i => D.int (shr w i i) := by unfold ownsL; simp
    rw [e2, ← e]
    refine e_lc _ nofun (i_enum (Evl.sqT (xs := w.map toldD) (e_idx (n := 1) (xs := [tI o, wsD w]) (e_var rfl) e_c rfl))) (by rw [enumD_len]; have := k.wl; simp; omega) fun x hx s l P p => ?_
    obtain ⟨i, hi⟩ := List.getElem?_of_mem hx
    obtain ⟨a, ha, rfl⟩ := enumD_get hi
    obtain ⟨told, ht, rfl⟩ : ∃ told, w[i]? = some told ∧ a = toldD told := by
      rw [List.getElem?_map] at ha
      cases hw : w[i]? with
      | none => rw [hw] at ha; cases ha
      | some told => rw [hw] at ha; cases ha; exact ⟨told, rfl, rfl⟩
    have hiw := (List.getElem?_eq_some_iff.mp ht).1
    obtain ⟨told', t1', t2'⟩ := partA_get k hiw (Nat.le_refl _)
    rw [ht] at t1'; cases t1'
    refine g2 (p _ ?_)
    have ez : (0 + i : Nat) = i := Nat.zero_add i
    rw [ez]
    exact e_mt1 (e_var rfl) (l.get hq3 nofun) nofun rfl (a := fD (partA w i i)) (e_idx (n := i) (e_var rfl) (e_var rfl) (by simp [t2'])) fun s' l' P p => ⟨r, _, _, lev w, rfl, (l.trans l').get hq3 nofun, rfl, partA_fr k hiw (Nat.le_refl _), L1, Ret.evp p⟩
  obtain ⟨a, rfl, ha, _, hal⟩ := v4
  have hrl := lt_of_get hq3
  have har : a ≠ r := by omega
  have hq4 : (s4.set r (.ins "Reckoner" (putD "owns" (.ref a) [("kind", kD o w), ("orders", tI o), ("many", .int o.length), ("level", .int (lev w))])))[r]? = some (.ins "Reckoner" [("kind", kD o w), ("orders", tI o), ("many", .int o.length), ("level", .int (lev w)), ("owns", .ref a)]) := List.getElem?_set_self (lt_of_get (l4.get hq3 nofun))
  have ha4 : (s4.set r (.ins "Reckoner" (putD "owns" (.ref a) [("kind", kD o w), ("orders", tI o), ("many", .int o.length), ("level", .int (lev w))])))[a]? = some (.lst (inz (ownsL w))) := (List.getElem?_set_ne har.symm).trans ha
  have lq4 : LeN r none s0 (s4.set r (.ins "Reckoner" (putD "owns" (.ref a) [("kind", kD o w), ("orders", tI o), ("many", .int o.length), ("level", .int (lev w))]))) := setR (lq3.trans l4.toN)
  generalize (s4.set r (.ins "Reckoner" (putD "owns" (.ref a) [("kind", kD o w), ("orders", tI o), ("many", .int o.length), ("level", .int (lev w))]))) = t4 at hq4 ha4 lq4 ⊢
  -- pairs
  dsimp only
  refine p_fset (i := 0) (V := LsV none t4.length ((List.range w.length).map fun i => Ls none 0 (inz (pairR w i)))) (r := r) ?_ rfl hq4 (by simp) fun d s5 l5 v5 => ?_
  · have := e_lcL (t := none) (st := t4) (env := startE 6 [.ref r, kD o w]) (own := [4]) (wi := wRange1 (wCons (wFl "Reckoner" "many" (wVar 0)) wNil)) (g := gNm 4)
      (we := wLc [5] (wRange1 (wCons (wFl "Reckoner" "many" (wVar 0)) wNil)) (gNm 5) wYes (wMt "Reckoner" "letter_pairing" 3 sp_Reckoner_letter_pairing (wVar 0) (wCons (wVar 4) (wCons (wVar 5) wNil))))
      (xs := (List.range w.length).map fun (i : Nat) => D.int (i : Int)) (fun d => match d with | .int i => inz (pairR w i.toNat) | _ => []) nofun (by rw [k.len]; exact i_rng1 (e_fldI (e_var rfl) hq4 nofun rfl) (by have := k.n10; omega)) (by have := k.wl; simp; omega) fun x hx s l P p => by
        obtain ⟨i, hi, rfl⟩ := List.mem_map.mp hx
        have hi := List.mem_range.mp hi
        refine g1 (p _ ?_)
        have e3 : inz (pairR w ((i : Int)).toNat) = ((List.range w.length).map fun (j : Nat) => D.int (j : Int)).map fun d => match d with | .int j => D.int (prA w i j.toNat) | _ => .non := by
          unfold pairR; simp
        show Evl none _ _ s (Ls none s.length (inz (pairR w ((i : Int)).toNat)))
        rw [e3]
        refine e_lc _ nofun (by rw [k.len]; exact i_rng1 (e_fldI (e_var rfl) (l.get hq4 nofun) nofun rfl) (by have := k.n10; omega)) (by have := k.wl; simp; omega) fun x hx s' l' P p => ?_
        obtain ⟨j, hj, rfl⟩ := List.mem_map.mp hx
        have hj := List.mem_range.mp hj
        have ll := l.trans l'
        refine g1 (p _ ?_)
        exact e_mt2 (e_var rfl) (ll.get hq4 nofun) nofun rfl (e_var rfl) (e_var rfl) fun s'' l'' P p => ⟨r, a, _, o, w, i, j, rfl, (ll.trans l'').get hq4 nofun, rfl, rfl, rfl, (ll.trans l'').get ha4 nofun, rfl, k, hi, hj, Ret.evp p⟩
    rw [List.map_map] at this
    exact this
  obtain ⟨b, ys, rfl, hb, _, hbl, hf⟩ := v5
  have hrl4 := lt_of_get hq4
  have hbr : b ≠ r := by omega
  have hq5 : (s5.set r (.ins "Reckoner" (putD "pairs" (.ref b) [("kind", kD o w), ("orders", tI o), ("many", .int o.length), ("level", .int (lev w)), ("owns", .ref a)])))[r]? = some (.ins "Reckoner" [("kind", kD o w), ("orders", tI o), ("many", .int o.length), ("level", .int (lev w)), ("owns", .ref a), ("pairs", .ref b)]) := List.getElem?_set_self (lt_of_get (l5.get hq4 nofun))
  have lq5 : LeN r none s0 (s5.set r (.ins "Reckoner" (putD "pairs" (.ref b) [("kind", kD o w), ("orders", tI o), ("many", .int o.length), ("level", .int (lev w)), ("owns", .ref a)]))) := setR (lq4.trans l5.toN)
  have kp : ∀ {s : Sto} {fs : List (Str × D)} {u : O} {x : List D} {d : D}, s[r]? = some (.ins "Reckoner" fs) → Ls none 0 x d s → Ls none 0 x d (s.set r u) := fun hs ⟨n, e, h1, h2, h3⟩ => ⟨n, e, (List.getElem?_set_ne (fun z => by rw [← z, hs] at h1; cases h1)).trans h1, h2, h3⟩
  have own5 : Ls none 0 (inz (ownsL w)) (.ref a) (s5.set r (.ins "Reckoner" (putD "pairs" (.ref b) [("kind", kD o w), ("orders", tI o), ("many", .int o.length), ("level", .int (lev w)), ("owns", .ref a)]))) := kp (l5.get hq4 nofun) ⟨a, rfl, l5.get ha4 nofun, nofun, Nat.zero_le _⟩
  have prs5 : LsV none 0 ((List.range w.length).map fun i => Ls none 0 (inz (pairR w i))) (.ref b) (s5.set r (.ins "Reckoner" (putD "pairs" (.ref b) [("kind", kD o w), ("orders", tI o), ("many", .int o.length), ("level", .int (lev w)), ("owns", .ref a)]))) :=
    ⟨b, ys, rfl, (List.getElem?_set_ne hbr.symm).trans hb, nofun, Nat.zero_le _, hf.imp fun V hV d v => by
      obtain ⟨i, _, rfl⟩ := List.mem_map.mp hV
      exact kp (l5.get hq4 nofun) v⟩
  generalize (s5.set r (.ins "Reckoner" (putD "pairs" (.ref b) [("kind", kD o w), ("orders", tI o), ("many", .int o.length), ("level", .int (lev w)), ("owns", .ref a)]))) = t5 at hq5 lq5 own5 prs5 ⊢
  -- known
  dsimp only
  refine p_fset (i := 0) (V := DX.Sm fun d => ∃ c, d = .ref c) (r := r) e_dic0 rfl hq5 (by simp) fun d s6 l6 v6 => ?_
  obtain ⟨c, rfl⟩ := v6
  have hq6 : (s6.set r (.ins "Reckoner" (putD "known" (.ref c) [("kind", kD o w), ("orders", tI o), ("many", .int o.length), ("level", .int (lev w)), ("owns", .ref a), ("pairs", .ref b)])))[r]? = some (.ins "Reckoner" (recF o w a b c)) := List.getElem?_set_self (lt_of_get (l6.get hq5 nofun))
  have lq6 : LeN r none s0 (s6.set r (.ins "Reckoner" (putD "known" (.ref c) [("kind", kD o w), ("orders", tI o), ("many", .int o.length), ("level", .int (lev w)), ("owns", .ref a), ("pairs", .ref b)]))) := setR (lq5.trans l6.toN)
  refine h _ ⟨lq6.len, fun i hi _ => lq6.eq i hi (by omega) nofun, nofun⟩ ⟨a, b, c, hq6, kp (l6.get hq5 nofun) (mono_ls _ _ _ own5 l6), ?_⟩
  obtain ⟨b', ys', eb, h1, h2, h3, h4⟩ := mono_lsv mono_prs _ _ _ prs5 l6
  cases eb
  exact ⟨b, ys', rfl, (List.getElem?_set_ne hbr.symm).trans h1, nofun, Nat.zero_le _, h4.imp fun V hV d v => by
    obtain ⟨i, _, rfl⟩ := List.mem_map.mp hV
    exact kp (l6.get hq5 nofun) v⟩

/-! worth_by, pairing_by, order_by -/
abbrev wfr (w : List (List (Int × Int))) (ns : List Int) : D := frD (Qf w (rf ns) w.length % lev w) (lev w)
abbrev bfr (w : List (List (Int × Int))) (ns us : List Int) : D := frD (Bf w (rf ns) (rf us) w.length % lev w) (lev w)
theorem e_reck {env : Ev} {st : Sto} {o : List Int} {w : List (List (Int × Int))} (k : Kind o w) (h0 : env[0]? = some (some (kD o w))) : Evl none (wMk "Reckoner" 2 sp_Reckoner___init__ (wCons (wVar 0) wNil)) env st (fun d s => ∃ r, d = .ref r ∧ RecAt o w r s) :=
  e_mk (a_is (e_var h0) a_nil) rfl fun ds s l f P p => by
    rw [f2_is (xs := [kD o w]) f]
    exact ⟨o, w, s, rfl, rfl, k, fun s' l' r' => p s' l' ⟨_, rfl, r'⟩⟩
theorem mono_rec {o w} : Mono none (fun d s => ∃ r, d = .ref r ∧ RecAt o w r s) := fun d s s' ⟨r, e, h⟩ l => ⟨r, e, h.le l⟩
theorem RecAt.ins {o w} {r : Nat} {s : Sto} (h : RecAt o w r s) : ∃ a b c, s[r]? = some (.ins "Reckoner" (recF o w a b c)) := let ⟨a, b, c, h, _⟩ := h; ⟨a, b, c, h⟩
def sp_worth_by : DSp := fun ds st P => ∃ (o : List Int) (w : List (List (Int × Int))) (ns : List Int), ds = [kD o w, tI ns] ∧ Kind o w ∧ ns.length = w.length ∧ (∀ x ∈ ns, Sml 400 x) ∧ Ret st (wfr w ns) P
theorem ok_worth_by (ds : List D) (st : Sto) (P : DP) (h : sp_worth_by ds st P) : w_worth_by sp_Reckoner___init__ sp_Reckoner_told sp_Reckoner_worth (En0 P) (startE 3 ds) st := by
  obtain ⟨o, w, ns, rfl, k, hl, hb, h⟩ := h
  refine p_asg (e_reck k rfl) fun d s l ⟨r, e, hr⟩ => ?_
  subst e
  obtain ⟨a, b, c, hi⟩ := hr.ins
  exact p_retI (e_mt1 (e_var rfl) hi nofun rfl (e_mt1 (e_var rfl) hi nofun rfl (e_var rfl) fun s2 l2 P p => ⟨r, o, w, ns, rfl, hr.le l2, k, hl, hb, Ret.evp p⟩) fun s2 l2 P p => ⟨r, o, w, _, rfl, hr.le l2, k, Ret.evp p⟩) fun s2 l2 => h s2 (l.trans l2)
def sp_pairing_by : DSp := fun ds st P => ∃ (o : List Int) (w : List (List (Int × Int))) (ns us : List Int), ds = [kD o w, tI ns, tI us] ∧ Kind o w ∧ ns.length = w.length ∧ us.length = w.length ∧ (∀ x ∈ ns, Sml 400 x) ∧ (∀ x ∈ us, Sml 400 x) ∧ Ret st (bfr w ns us) P
theorem ok_pairing_by (ds : List D) (st : Sto) (P : DP) (h : sp_pairing_by ds st P) : w_pairing_by sp_Reckoner___init__ sp_Reckoner_told sp_Reckoner_pairing (En0 P) (startE 4 ds) st := by
  obtain ⟨o, w, ns, us, rfl, k, hl, hlu, hb, hbu, h⟩ := h
  refine p_asg (e_reck k rfl) fun d s l ⟨r, e, hr⟩ => ?_
  subst e
  obtain ⟨a, b, c, hi⟩ := hr.ins
  exact p_retI (e_mt1 (e_var rfl) hi nofun rfl (e_mt2 (e_var rfl) hi nofun rfl (e_var rfl) (e_var rfl) fun s2 l2 P p => ⟨r, o, w, ns, us, rfl, hr.le l2, k, hl, hlu, hb, hbu, Ret.evp p⟩) fun s2 l2 P p => ⟨r, o, w, _, rfl, hr.le l2, k, Ret.evp p⟩) fun s2 l2 => h s2 (l.trans l2)
def sp_order_by : DSp := fun ds st P => ∃ (o : List Int) (w : List (List (Int × Int))) (ns : List Int), ds = [kD o w, tI ns] ∧ Kind o w ∧ ns.length = o.length ∧ Ret st (.int (orderL o ns)) P
theorem ok_order_by (ds : List D) (st : Sto) (P : DP) (h : sp_order_by ds st P) : w_order_by sp_Reckoner___init__ sp_Reckoner_order (En0 P) (startE 2 ds) st := by
  obtain ⟨o, w, ns, rfl, k, hl, h⟩ := h
  refine p_retI (fun st0 l0 P p => e_reck (st := st) k rfl st0 l0 _ fun d s l ⟨r, e, hr⟩ => ?_) h
  subst e
  obtain ⟨a, b, c, hi⟩ := hr.ins
  exact ⟨r, _, rfl, hi, rfl, tI ns, rfl, rfl, r, o, w, ns, rfl, hr, k, hl, Ret.evp (p.le l)⟩

/-! the ways in -/
def sp_check_kind : DSp := fun ds st P => ∃ o w, ds = [kD o w] ∧ Kind o w ∧ Ret st .non P
theorem ok_check_kind (ds : List D) (st : Sto) (P : DP) (h : sp_check_kind ds st P) : w_check_kind sp_is_kind_by (En0 P) (startE 1 ds) st := by
  obtain ⟨o, w, rfl, k, h⟩ := h
  exact p_no (u := wNext) (b_not (b := true) (b_bl (e_def1 (e_var rfl) fun s _ P p => ⟨o, w, rfl, k, Ret.evp p⟩))) fun s l => h s l
def sp_check_row : DSp := fun ds st P => ∃ o w ns, ds = [kD o w, tI ns] ∧ ns.length = o.length ∧ o.length ≤ 10 ∧ Ret st .non P
theorem ok_check_row (ds : List D) (st : Sto) (P : DP) (h : sp_check_row ds st P) : w_check_row sp_is_row_by (En0 P) (startE 2 ds) st := by
  obtain ⟨o, w, ns, rfl, hl, hz, h⟩ := h
  exact p_no (u := wNext) (b_not (b := true) (b_bl (e_def2 (e_var rfl) (e_var rfl) fun s _ P p => ⟨o, w, ns, rfl, hl, hz, Ret.evp p⟩))) fun s l => h s l
def sp_check_kind_and_row : DSp := fun ds st P => ∃ o w ns, ds = [kD o w, tI ns] ∧ Kind o w ∧ ns.length = o.length ∧ Ret st .non P
theorem ok_check_kind_and_row (ds : List D) (st : Sto) (P : DP) (h : sp_check_kind_and_row ds st P) : w_check_kind_and_row sp_check_kind sp_check_row (En0 P) (startE 2 ds) st := by
  obtain ⟨o, w, ns, rfl, k, hl, h⟩ := h
  exact p_drop (V := Is .non) (e_def1 (e_var rfl) fun s _ P p => ⟨o, w, rfl, k, Ret.evp p⟩) fun s l => p_drop (V := Is .non) (e_def2 (e_var rfl) (e_var rfl) fun s _ P p => ⟨o, w, ns, rfl, hl, k.n10, Ret.evp p⟩) fun s2 l2 => h s2 (l.trans l2)
def sp_is_kind : DSp := sp_is_kind_by
theorem ok_is_kind (ds : List D) (st : Sto) (P : DP) (h : sp_is_kind ds st P) : w_is_kind sp_is_kind_by (En0 P) (startE 1 ds) st := by
  obtain ⟨o, w, rfl, k, h⟩ := h
  exact p_retI (e_def1 (e_var rfl) fun s _ P p => ⟨o, w, rfl, k, Ret.evp p⟩) h
def sp_plain : DSp := fun ds st P => ∃ o w ns, ds = [kD o w, tI ns] ∧ Kind o w ∧ ns.length = o.length ∧ Ret st (tI (plainL o ns)) P
theorem ok_plain (ds : List D) (st : Sto) (P : DP) (h : sp_plain ds st P) : w_plain sp_check_kind_and_row sp_plain_by (En0 P) (startE 2 ds) st := by
  obtain ⟨o, w, ns, rfl, k, hl, h⟩ := h
  exact p_drop (V := Is .non) (e_def2 (e_var rfl) (e_var rfl) fun s _ P p => ⟨o, w, ns, rfl, k, hl, Ret.evp p⟩) fun s l => p_retI (e_def2 (e_var rfl) (e_var rfl) fun s _ P p => ⟨o, w, ns, rfl, k.n10, k.two, Ret.evp p⟩) fun s2 l2 => h s2 (l.trans l2)
def sp_worth : DSp := sp_worth_by
theorem ok_worth (ds : List D) (st : Sto) (P : DP) (h : sp_worth ds st P) : w_worth sp_check_kind_and_row sp_worth_by (En0 P) (startE 2 ds) st := by
  obtain ⟨o, w, ns, rfl, k, hl, hb, h⟩ := h
  exact p_drop (V := Is .non) (e_def2 (e_var rfl) (e_var rfl) fun s _ P p => ⟨o, w, ns, rfl, k, hl.trans k.len, Ret.evp p⟩) fun s l => p_retI (e_def2 (e_var rfl) (e_var rfl) fun s _ P p => ⟨o, w, ns, rfl, k, hl, hb, Ret.evp p⟩) fun s2 l2 => h s2 (l.trans l2)
def sp_pairing : DSp := sp_pairing_by
theorem ok_pairing (ds : List D) (st : Sto) (P : DP) (h : sp_pairing ds st P) : w_pairing sp_check_kind_and_row sp_check_row sp_pairing_by (En0 P) (startE 3 ds) st := by
  obtain ⟨o, w, ns, us, rfl, k, hl, hlu, hb, hbu, h⟩ := h
  exact p_drop (V := Is .non) (e_def2 (e_var rfl) (e_var rfl) fun s _ P p => ⟨o, w, ns, rfl, k, hl.trans k.len, Ret.evp p⟩) fun s l => p_drop (V := Is .non) (e_def2 (e_var rfl) (e_var rfl) fun s _ P p => ⟨o, w, us, rfl, hlu.trans k.len, k.n10, Ret.evp p⟩) fun s1 l1 =>
    p_retI (e_def3 (e_var rfl) (e_var rfl) (e_var rfl) fun s _ P p => ⟨o, w, ns, us, rfl, k, hl, hlu, hb, hbu, Ret.evp p⟩) fun s2 l2 => h s2 ((l.trans l1).trans l2)
def sp_order : DSp := sp_order_by
theorem ok_order (ds : List D) (st : Sto) (P : DP) (h : sp_order ds st P) : w_order sp_check_kind_and_row sp_order_by (En0 P) (startE 2 ds) st := by
  obtain ⟨o, w, ns, rfl, k, hl, h⟩ := h
  exact p_drop (V := Is .non) (e_def2 (e_var rfl) (e_var rfl) fun s _ P p => ⟨o, w, ns, rfl, k, hl, Ret.evp p⟩) fun s l => p_retI (e_def2 (e_var rfl) (e_var rfl) fun s _ P p => ⟨o, w, ns, rfl, k, hl, Ret.evp p⟩) fun s2 l2 => h s2 (l.trans l2)
end K11

set_option Elab.async false
set_option linter.all false
set_option maxRecDepth 100000
set_option maxHeartbeats 1000000
/-! k11, part m: rationals modulo one. -/
namespace K11
open PySem PySem.Spec PyProof.Rows L2 DX

theorem dvd_cop {q p r : Int} (h : Int.gcd p q = 1) (d : q ∣ p * r) : q ∣ r := by
  have h1 : Nat.Coprime q.natAbs p.natAbs := by
    unfold Nat.Coprime
    rw [Nat.gcd_comm]
    exact h
  have h2 : q.natAbs ∣ p.natAbs * r.natAbs := by rw [← Int.natAbs_mul]; exact Int.natAbs_dvd_natAbs.mpr d
  exact Int.natAbs_dvd_natAbs.mp (h1.dvd_of_dvd_mul_left h2)
theorem red {P Q P' Q' : Int} (hQ : 0 < Q) (hQ' : 0 < Q') (h : P * Q' = P' * Q) : frD P Q = frD P' Q' := by
  have g0 := gcd_pos (a := P) hQ
  have g0' := gcd_pos (a := P') hQ'
  have c1 := Int.gcd_ediv_gcd_ediv_gcd g0
  have c2 := Int.gcd_ediv_gcd_ediv_gcd g0'
  have e1 : P / (Int.gcd P Q : Nat) * (Int.gcd P Q : Nat) = P := Int.ediv_mul_cancel (Int.gcd_dvd_left ..)
  have e2 : Q / (Int.gcd P Q : Nat) * (Int.gcd P Q : Nat) = Q := Int.ediv_mul_cancel (Int.gcd_dvd_right ..)
  have e3 : P' / (Int.gcd P' Q' : Nat) * (Int.gcd P' Q' : Nat) = P' := Int.ediv_mul_cancel (Int.gcd_dvd_left ..)
  have e4 : Q' / (Int.gcd P' Q' : Nat) * (Int.gcd P' Q' : Nat) = Q' := Int.ediv_mul_cancel (Int.gcd_dvd_right ..)
  unfold frD
  generalize hp : P / (Int.gcd P Q : Nat) = p at *
  generalize hq : Q / (Int.gcd P Q : Nat) = q at *
  generalize hp' : P' / (Int.gcd P' Q' : Nat) = p' at *
  generalize hq' : Q' / (Int.gcd P' Q' : Nat) = q' at *
  generalize hg : ((Int.gcd P Q : Nat) : Int) = g at *
  generalize hg' : ((Int.gcd P' Q' : Nat) : Int) = g' at *
  have gp : 0 < g := by omega
  have gp' : 0 < g' := by omega
  have hc : p * q' = p' * q := by
    have h1 : (p * q') * (g * g') = (p' * q) * (g * g') := by
      have : p * g * (q' * g') = p' * g' * (q * g) := by rw [e1, e2, e3, e4]; exact h
      calc (p * q') * (g * g') = p * g * (q' * g') := by simp only [Int.mul_comm, Int.mul_left_comm, Int.mul_assoc]
        _ = p' * g' * (q * g) := this
        _ = (p' * q) * (g * g') := by simp only [Int.mul_comm, Int.mul_left_comm, Int.mul_assoc]
    exact Int.eq_of_mul_eq_mul_right (Int.ne_of_gt (Int.mul_pos gp gp')) h1
  have q0 : 0 < q := by
    rcases Int.lt_trichotomy q 0 with z | z | z
    · have := Int.mul_neg_of_neg_of_pos z gp; omega
    · rw [z, Int.zero_mul] at e2; omega
    · exact z
  have q0' : 0 < q' := by
    rcases Int.lt_trichotomy q' 0 with z | z | z
    · have := Int.mul_neg_of_neg_of_pos z gp'; omega
    · rw [z, Int.zero_mul] at e4; omega
    · exact z
  have d1 : q ∣ q' := dvd_cop c1 ⟨p', by rw [hc, Int.mul_comm]⟩
  have d2 : q' ∣ q := dvd_cop c2 ⟨p, by rw [← hc, Int.mul_comm]⟩
  have eq : q = q' := Int.le_antisymm (Int.le_of_dvd q0' d1) (Int.le_of_dvd q0 d2)
  subst eq
  have : p = p' := Int.eq_of_mul_eq_mul_right (Int.ne_of_gt q0) hc
  rw [this]
/-- x / L modulo one -/
def cf (x L : Int) : D := frD (x % L) L
def cA (x L : Int) : Int := (x % L) / (Int.gcd (x % L) L : Nat)
def cB (x L : Int) : Int := L / (Int.gcd (x % L) L : Nat)
theorem cf_eq2 (x L : Int) : cf x L = fr2 (cA x L) (cB x L) := rfl
theorem cAB {x L : Int} (h : 0 < L) : 0 ≤ cA x L ∧ cA x L < cB x L ∧ cB x L ≤ L ∧ cA x L * L = (x % L) * cB x L := by
  have g0 := gcd_pos (a := x % L) h
  have e1 : (x % L) / (Int.gcd (x % L) L : Nat) * (Int.gcd (x % L) L : Nat) = x % L := Int.ediv_mul_cancel (Int.gcd_dvd_left ..)
  have e2 : L / (Int.gcd (x % L) L : Nat) * (Int.gcd (x % L) L : Nat) = L := Int.ediv_mul_cancel (Int.gcd_dvd_right ..)
  have h1 := Int.emod_nonneg x (Int.ne_of_gt h)
  have h2 := Int.emod_lt_of_pos x h
  unfold cA cB
  refine ⟨Int.ediv_nonneg h1 (by omega), Int.lt_of_mul_lt_mul_right (a := ((Int.gcd (x % L) L : Nat) : Int)) (by rw [e1, e2]; exact h2) (by omega), ?_, ?_⟩
  · have : (1 : Int) ≤ (Int.gcd (x % L) L : Nat) := by omega
    exact Int.ediv_le_self _ (by omega)
  · generalize (x % L) / (Int.gcd (x % L) L : Nat) = p at *
    generalize L / (Int.gcd (x % L) L : Nat) = q at *
    generalize ((Int.gcd (x % L) L : Nat) : Int) = g at *
    calc p * L = p * (q * g) := by rw [e2]
      _ = p * g * q := by rw [Int.mul_assoc, Int.mul_comm g q]
      _ = x % L * q := by rw [e1]
theorem mod_scale {x L y M : Int} (hL : 0 < L) (hM : 0 < M) (h : x * M = y * L) : (x % L) * M = (y % M) * L := by
  have e : x / L = y / M := by
    rw [← Int.mul_ediv_mul_of_pos_left x L hM, ← Int.mul_ediv_mul_of_pos_left y M hL, h, Int.mul_comm L M]
  rw [Int.emod_def, Int.emod_def, Int.sub_mul, Int.sub_mul, h, e, Int.mul_right_comm L, Int.mul_right_comm M, Int.mul_comm L M]
theorem cf_eq {x L y M : Int} (hL : 0 < L) (hM : 0 < M) (h : x * M = y * L) : cf x L = cf y M := red hL hM (mod_scale hL hM h)
theorem cf_mod {x y L : Int} (h : x % L = y % L) : cf x L = cf y L := by unfold cf; rw [h]
theorem cf_added {x y L : Int} (h : 0 < L) : cf (cA x L * cB y L + cA y L * cB x L) (cB x L * cB y L) = cf (x + y) L := by
  obtain ⟨a0, a1, a2, a3⟩ := cAB (x := x) h
  obtain ⟨b0, b1, b2, b3⟩ := cAB (x := y) h
  rw [cf_mod (show (x + y) % L = (x % L + y % L) % L by rw [Int.add_emod])]
  refine cf_eq (Int.mul_pos (by omega) (by omega)) h ?_
  calc (cA x L * cB y L + cA y L * cB x L) * L = cA x L * L * cB y L + cA y L * L * cB x L := by rw [Int.add_mul, Int.mul_right_comm, Int.mul_right_comm (cA y L)]
    _ = (x % L) * cB x L * cB y L + (y % L) * cB y L * cB x L := by rw [a3, b3]
    _ = (x % L + y % L) * (cB x L * cB y L) := by rw [Int.add_mul, Int.mul_assoc, Int.mul_assoc (y % L), Int.mul_comm (cB y L)]
theorem cf_times {x n L : Int} (h : 0 < L) : cf (cA x L * n) (cB x L) = cf (x * n) L := by
  obtain ⟨a0, a1, a2, a3⟩ := cAB (x := x) h
  rw [cf_mod (show (x * n) % L = (x % L * n) % L by
    conv => rhs; rw [Int.mul_emod, Int.emod_emod, ← Int.mul_emod])]
  refine cf_eq (by omega) h ?_
  rw [Int.mul_right_comm, a3, Int.mul_right_comm]
theorem cf_part {p : Int × Int} {L : Int} (f : Fr p) (hL : 0 < L) (hd : p.2 ∣ L) : fD p = cf (p.1 * (L / p.2)) L := by
  have hp : 0 < p.2 := by have := f.lo; have := f.hi; omega
  have e : fD p = frD p.1 p.2 := by unfold frD; rw [f.g]; simp
  have e1 : L / p.2 * p.2 = L := Int.ediv_mul_cancel hd
  have hq : 0 < L / p.2 := Int.ediv_pos_of_pos_of_dvd hL (by omega) hd
  have hm : (p.1 * (L / p.2)) % L = p.1 * (L / p.2) := by
    refine Int.emod_eq_of_lt (Int.mul_nonneg f.lo (by omega)) ?_
    calc p.1 * (L / p.2) < p.2 * (L / p.2) := Int.mul_lt_mul_of_pos_right f.hi hq
      _ = L := by rw [Int.mul_comm]; exact e1
  rw [e]
  unfold cf
  rw [hm]
  refine red hp hL ?_
  rw [Int.mul_assoc, e1]
theorem cf_zero {L : Int} (h : 0 < L) : fr2 0 1 = cf 0 L := by
  unfold cf
  rw [Int.zero_emod]
  exact (show fr2 0 1 = frD 0 1 from rfl).trans (red (by decide) h (by simp))
/-- what is not reduced becomes a part -/
theorem cf_fr {x L : Int} (h : 0 < L) (hs : L ≤ 4096) : Fr (cA x L, cB x L) := by
  obtain ⟨a0, a1, a2, a3⟩ := cAB (x := x) h
  exact ⟨a0, a1, by show cB x L ≤ 4096; omega, Int.gcd_ediv_gcd_ediv_gcd (gcd_pos h)⟩
end K11

set_option Elab.async false
set_option linter.all false
set_option maxRecDepth 100000
set_option maxHeartbeats 1000000
/-! k11, part h: the law's helpers. -/
namespace K11
open PySem PySem.Spec PyProof.Rows L2 DX

/-! drawing -/
def IntIn (lo hi : Int) : D → Prop := fun d => ∃ v, d = .int v ∧ lo ≤ v ∧ v < hi
def sp__law_wave : DSp := fun ds st P => ∃ (n : Nat) (m : Int), ds = [.ref n, .int m] ∧ 0 < m ∧ m < 1000000 ∧ Tid st n ∧ EvP (some n) st (DX.Sm (IntIn 0 m)) P
theorem ok__law_wave (ds : List D) (st : Sto) (P : DP) (h : sp__law_wave ds st P) : w__law_wave (En0 P) (startE 3 ds) st := by
  obtain ⟨n, m, rfl, m0, m1, ⟨a, b, hn, a0, a1, b0, b1⟩, h⟩ := h
  have ls : ∀ {s : Sto} {x y : Int} {env : Ev}, env[0]? = some (some (.ref n)) → s[n]? = some (.lst [.int x, .int y]) → Evl none (wVar 0) env s (Ls none 0 [.int x, .int y]) := fun he hs => e_varV he mono_ls ⟨n, rfl, hs, nofun, Nat.zero_le _⟩
  refine q_if (t := none) (b := decide (0 < b)) (b_tb (e_gt (e_idxL (n := 1) (ls rfl hn) e_c rfl) e_c)) (fun e s l => ?_) fun e s l => ?_
  · have hb : 0 < b := of_decide_eq_true e
    have hs := l.get hn nofun
    refine p_asgG (a := .tup [.int (b / m), .int (b % m)]) (e_call2i (e_idxL (n := 1) (ls rfl hs) e_c rfl) (e_var rfl) fun s P p => ⟨⟨m0, PyProof.noPylong_small (by omega)⟩, p⟩) fun s2 l2 => ?_
    have hs2 := l2.get hs nofun
    refine ⟨_, rfl, rfl, _, _, rfl, ⟨_, rfl, n, [.int a, .int b], 1, 1, rfl, rfl, hs2, rfl, ?_⟩⟩
    refine ⟨_, _, rfl, rfl, ?_⟩
    have h1 := Int.emod_nonneg b (Int.ne_of_gt m0)
    have h2 := Int.emod_lt_of_pos b m0
    have h3 : 0 ≤ b / m := Int.ediv_nonneg b0 (by omega)
    have h4 : b / m ≤ b := Int.ediv_le_self _ b0
    refine ⟨_, rfl, h _ _ ((l.trans l2).up.trans (.set (a := a) (b := b / m) ⟨a0, a1, h3, by omega⟩ (lt_of_get hs2))) ⟨_, rfl, h1, h2⟩⟩
  · have hs := l.get hn nofun
    unfold wNext
    dsimp only
    refine p_asgG (a := .int ((a * 3935559000370003845 + 2691343689449507681) % 9223372036854775783)) (e_mod (e_int (e_add (e_mul (e_idxL (n := 0) (ls rfl hs) e_c rfl) e_c (Sml.cm (a := 64) (b := 64) (by unfold Sml; show _ < 18446744073709551616; omega) (by unfold Sml; decide))) e_c)) e_c (by decide)) fun s2 l2 => ?_
    have hs2 := l2.get hs nofun
    refine ⟨_, rfl, n, [.int a, .int b], 0, 0, rfl, rfl, hs2, rfl, ?_⟩
    have c0 := Int.emod_nonneg (a * 3935559000370003845 + 2691343689449507681) (show (9223372036854775783 : Int) ≠ 0 by decide)
    have c1 := Int.emod_lt_of_pos (a * 3935559000370003845 + 2691343689449507681) (show (0 : Int) < 9223372036854775783 by decide)
    generalize (a * 3935559000370003845 + 2691343689449507681) % 9223372036854775783 = c at c0 c1
    have hs3 : (s2.set n (.lst ([D.int a, D.int b].set 0 (.int c))))[n]? = some (.lst [.int c, .int b]) := List.getElem?_set_self (lt_of_get hs2)
    have l3 : Le (some n) st (s2.set n (.lst ([D.int a, D.int b].set 0 (.int c)))) := (l.trans l2).up.trans (.set (a := c) (b := b) ⟨c0, c1, b0, b1⟩ (lt_of_get hs2))
    generalize s2.set n (.lst ([D.int a, D.int b].set 0 (.int c))) = s3 at hs3 l3
    refine p_retI (a := .int (c / 4294967296 % m)) (E := En0 P) (e_mod (e_int (e_div (e_idxL (n := 0) (ls rfl hs3) e_c rfl) e_c (by decide) (Sml.lt (a := 40) (by unfold Sml; decide) (by decide)))) (e_var rfl) m0) fun s4 l4 => ?_
    exact h _ _ (l3.trans l4.up) ⟨_, rfl, Int.emod_nonneg _ (Int.ne_of_gt m0), Int.emod_lt_of_pos _ m0⟩
theorem e_wave {n i : Nat} {m : Int} {env : Ev} {st : Sto} {wm : W} (h0 : env[i]? = some (some (.ref n))) (td : Tid st n) (hm : Evl (some n) wm env st (Is (.int m))) (m0 : 0 < m) (m1 : m < 1000000) : Evl (some n) (wDef 2 sp__law_wave (wCons (wVar i) (wCons wm wNil))) env st (DX.Sm (IntIn 0 m)) :=
  e_def2 (e_var h0) hm fun s l P p => ⟨n, m, rfl, m0, m1, l.td n rfl td, p⟩
def sp__law_one : DSp := fun ds st P => ∃ (n : Nat) (xs : List D), ds = [.ref n, .tup xs] ∧ 0 < xs.length ∧ xs.length < 1000 ∧ Tid st n ∧ EvP (some n) st (DX.Sm (· ∈ xs)) P
theorem ok__law_one (ds : List D) (st : Sto) (P : DP) (h : sp__law_one ds st P) : w__law_one sp__law_wave (En0 P) (startE 2 ds) st := by
  obtain ⟨n, xs, rfl, h0, h1, td, h⟩ := h
  refine q_ret (t := some n) (V := DX.Sm (· ∈ xs)) (e_binV (Va := Is (.tup xs)) (Vb := DX.Sm (IntIn 0 xs.length)) (e_var rfl) (e_wave rfl td (e_lenT (e_var rfl)) (by omega) (by omega)) mono_is fun d e s l v1 v2 P p => ?_) h
  cases v1
  obtain ⟨i, rfl, i0, i1⟩ := v2
  have hi : i.toNat < xs.length := by omega
  refine ⟨xs, xs[i.toNat], rfl, ?_, p.done (List.getElem_mem hi)⟩
  unfold atI ixN
  rw [if_pos i0, if_pos i1]
  simp [hi]
theorem e_one {n i : Nat} {xs : List D} {env : Ev} {st : Sto} {wm : W} (h0 : env[i]? = some (some (.ref n))) (td : Tid st n) (hm : Evl (some n) wm env st (Is (.tup xs))) (m0 : 0 < xs.length) (m1 : xs.length < 1000) : Evl (some n) (wDef 2 sp__law_one (wCons (wVar i) (wCons wm wNil))) env st (DX.Sm (· ∈ xs)) :=
  e_def2 (e_var h0) hm fun s l P p => ⟨n, xs, rfl, m0, m1, l.td n rfl td, p⟩

/-! _law_like, of equals -/
def okD : Nat → D → Bool
  | 0, _ => false
  | n + 1, .tup xs => decide (xs.length ≤ 1000) && xs.all (okD n)
  | _ + 1, .int _ => true
  | _ + 1, .bl _ => true
  | _ + 1, _ => false
def sp__law_like (n : Nat) : DSp := fun ds st P => ∃ d, ds = [d, d] ∧ okD n d = true ∧ Ret st (.bl true) P
theorem like0 {xs : List D} : ∀ {x : D}, x ∈ zipD xs xs → ∃ y, y ∈ xs ∧ x = .tup [y, y] := by
  induction xs with
  | nil => intro x h; cases h
  | cons a as ih =>
    intro x h
    rcases List.mem_cons.mp (show x ∈ .tup [a, a] :: zipD as as from h) with e | h
    · exact ⟨a, List.mem_cons_self, e⟩
    · obtain ⟨y, h1, h2⟩ := ih h
      exact ⟨y, List.mem_cons_of_mem _ h1, h2⟩
theorem none_false (ds : List D) (h : ∀ d ∈ ds, d = .bl true) : (ds.all flatD = true) ∧ (ds.any fun y => eqF y (.bl false)) = false := by
  constructor
  · exact List.all_eq_true.mpr fun d hd => by rw [h d hd]; rfl
  · exact List.any_eq_false.mpr fun d hd => by rw [h d hd]; decide
/-- False not in [..], all of them true -/
theorem e_notIn {t : Option Nat} {lo : Nat} {env : Ev} {st : Sto} {w : W} {ds : List D} (h : Evl t w env st (Ls t lo ds)) (hd : ∀ d ∈ ds, d = .bl true) : Evl t (wBin (rInD true) (wC (.bl false)) w) env st (Is (.bl true)) :=
  e_binV (Va := Is (.bl false)) e_c h mono_is fun d e s l v1 v2 P p => by
    cases v1
    obtain ⟨h1, h2⟩ := none_false ds hd
    refine ⟨ds, items_ls v2, rfl, h1, p.done ?_⟩
    show D.bl (!_) = D.bl true
    rw [h2]; rfl
theorem ok__law_like (n : Nat) (ds : List D) (st : Sto) (P : DP) (h : sp__law_like (n + 1) ds st P) : w__law_like (sp__law_like n) (En0 P) (startE 4 ds) st := by
  obtain ⟨d, rfl, hd, h⟩ := h
  cases d with
  | tup xs =>
    have hd : (decide (xs.length ≤ 1000) && xs.all (okD n)) = true := hd
    rw [Bool.and_eq_true, decide_eq_true_eq, List.all_eq_true] at hd
    refine q_if (t := none) (b := true) (b_bl (e_isi (e_var rfl) (fun _ => rfl) rfl)) (fun _ s l => ?_) nofun
    refine p_retI (a := .bl (true && (decide ((xs.length : Int) = xs.length) && true))) (e_and (e_isi (e_var rfl) (fun _ => rfl) rfl) fun _ => e_and (e_eq (e_lenT (e_var rfl)) (e_lenT (e_var rfl))) fun _ => e_notIn (lo := s.length) (ds := (zipD xs xs).map fun _ => .bl true) (e_lc _ nofun (i_zip (Evl.sqT (e_var rfl)) (Evl.sqT (e_var rfl))) (by rw [zipD_len]; omega) fun x hx s l P p => ?_) fun d hd => ?_) ?_
    · obtain ⟨y, hy, rfl⟩ := like0 hx
      exact g2 (p _ (e_def2 (e_var rfl) (e_var rfl) fun s _ P p => ⟨y, rfl, hd.2 y hy, Ret.evp p⟩))
    · obtain ⟨_, _, rfl⟩ := List.mem_map.mp hd; rfl
    · simp only [decide_true, Bool.and_self]
      exact fun s2 l2 => h s2 (l.trans l2)
  | int i =>
    refine q_if (t := none) (b := false) (b_bl (e_isi (e_var rfl) (fun _ => rfl) rfl)) nofun fun _ s l => ?_
    refine q_if (t := none) (b := false) (b_or (b := false) (c := false) (b_tb (e_bin (a := .int i) (b := .non) (e_var rfl) e_c fun s P p => p)) fun _ => b_bl (e_isi (e_var rfl) (fun _ => rfl) rfl)) nofun fun _ s2 l2 => ?_
    refine q_if (t := none) (b := true) (b_bl (e_isi (e_var rfl) (fun _ => rfl) rfl)) (fun _ s3 l3 => ?_) nofun
    refine p_retI (a := .bl (true && (true && decide (i = i)))) (e_and (e_isi (e_var rfl) (fun _ => rfl) rfl) fun _ => e_and (e_not (b := false) (e_isi (e_var rfl) (fun _ => rfl) rfl)) fun _ => e_eq (e_var rfl) (e_var rfl)) ?_
    simp only [decide_true, Bool.and_self]
    exact fun s4 l4 => h s4 (((l.trans l2).trans l3).trans l4)
  | bl b =>
    refine q_if (t := none) (b := false) (b_bl (e_isi (e_var rfl) (fun _ => rfl) rfl)) nofun fun _ s l => ?_
    refine q_if (t := none) (b := true) (b_or (b := false) (c := true) (b_tb (e_bin (a := .bl b) (b := .non) (e_var rfl) e_c fun s P p => p)) fun _ => b_bl (e_isi (e_var rfl) (fun _ => rfl) rfl)) (fun _ s2 l2 => ?_) nofun
    refine p_retI (a := .bl (true && (b == b))) (e_if (b := false) (b_tb (e_bin (a := .bl b) (b := .non) (e_var rfl) e_c fun s P p => p)) nofun fun _ => e_and (e_isi (e_var rfl) (fun _ => rfl) rfl) fun _ => e_bin (e_var rfl) (e_var rfl) fun s P p => p) ?_
    simp only [beq_self_eq_true, Bool.and_self]
    exact fun s4 l4 => h s4 ((l.trans l2).trans l4)
  | _ => cases hd
/-! _law_common -/
def itS : Nat → Nat → Nat → Nat × Nat
  | 0, a, b => (a, b)
  | m + 1, a, b => if 0 < b then itS m b (a % b) else itS m a 0
theorem itS_zero : ∀ (m a : Nat), itS m a 0 = (a, 0)
  | 0, _ => rfl
  | m + 1, a => by show (if 0 < 0 then _ else _) = _; rw [if_neg (by omega)]; exact itS_zero m a
theorem itS_done : ∀ (k m a b : Nat), b < 2 ^ k → 2 * k ≤ m → (itS m a b).2 = 0
  | 0, m, a, b, h, _ => by
    have : b = 0 := by simp at h; omega
    subst this; rw [itS_zero]
  | k + 1, m, a, b, h, hm => by
    obtain ⟨m, rfl⟩ : ∃ m', m = m' + 2 := ⟨m - 2, by omega⟩
    by_cases hb : 0 < b
    · rw [show itS (m + 2) a b = itS (m + 1) b (a % b) from if_pos hb]
      by_cases hr : 0 < a % b
      · rw [show itS (m + 1) b (a % b) = itS m (a % b) (b % (a % b)) from if_pos hr]
        refine itS_done k m _ _ ?_ (by omega)
        have h1 := Nat.mod_lt b hr
        have h2 := Nat.mod_lt a hb
        have h3 : b % (a % b) ≤ b - a % b := by
          rw [Nat.mod_eq_sub_mod (by omega)]
          exact Nat.mod_le _ _
        rw [Nat.pow_succ] at h
        omega
      · have : a % b = 0 := by omega
        rw [this, itS_zero]
    · have : b = 0 := by omega
      subst this; rw [itS_zero]
def sp__law_common : DSp := fun ds st P => ∃ i j : Int, ds = [.int i, .int j] ∧ Sml 100000 i ∧ Sml 100000 j ∧ Ret st (.int (Int.gcd i j : Nat)) P
theorem bits_lt (x : Int) : x.natAbs < 2 ^ Builtin.Int.intBits x := by
  unfold Builtin.Int.intBits
  split
  · rename_i h; simp at h; rw [h]; decide
  · rename_i h
    have hne : x.natAbs ≠ 0 := by simpa using h
    exact Nat.lt_log2_self
theorem ok__law_common (ds : List D) (st : Sto) (P : DP) (h : sp__law_common ds st P) : w__law_common (En0 P) (startE 3 ds) st := by
  obtain ⟨i, j, rfl, si, sj, h⟩ := h
  refine p_par (ds := [.int (i.natAbs : Int), .int (j.natAbs : Int)]) (a_is (e_abs (e_var rfl)) (a_is (e_abs (e_var rfl)) a_nil)) rfl fun s l => ?_
  have bi := bits_le (x := (i.natAbs : Int)) (a := 100000) (by unfold Sml at *; simpa using si)
  have bj := bits_le (x := (j.natAbs : Int)) (a := 100000) (by unfold Sml at *; simpa using sj)
  have hbj := bits_lt (j.natAbs : Int)
  generalize hA : Builtin.Int.intBits (i.natAbs : Int) = A at bi
  generalize hB : Builtin.Int.intBits (j.natAbs : Int) = B at bj hbj
  have sAB : Sml 20 ((A : Int) + (B : Int)) := by unfold Sml; show _ < 1048576; omega
  have er : Evl none (wBin rAdd (wBin rMul (wC (.int 2)) (wBin rAdd (wBits (wVar 0)) (wBits (wVar 1)))) (wC (.int 2))) [some (.int (i.natAbs : Int)), some (.int (j.natAbs : Int)), none] s (Is (.int ((2 * (A + B) + 2 : Nat) : Int))) := by
    have := e_add (t := none) (st := s) (e_mul (wa := wC (.int 2)) e_c (e_add (e_bits (e_var (env := [some (.int (i.natAbs : Int)), some (.int (j.natAbs : Int)), none]) (i := 0) rfl)) (e_bits (e_var (i := 1) rfl))) (by rw [hA, hB]; exact Sml.cm (a := 2) (by unfold Sml; decide) sAB)) (e_c (d := .int 2))
    rw [hA, hB] at this
    have e : (((2 * (A + B) + 2 : Nat)) : Int) = 2 * ((A : Int) + (B : Int)) + 2 := by omega
    rw [e]; exact this
  refine p_for (i_rng1 er (by omega)) (fun r env1 _ => ∃ (a b : Nat) (x : Option D), env1 = [some (.int (a : Int)), some (.int (b : Int)), x] ∧ Nat.gcd a b = Int.gcd i j ∧ (itS r.length a b).2 = 0) (fun _ _ => ⟨i.natAbs, j.natAbs, none, rfl, rfl, ?_⟩) ?_ ?_
  · refine itS_done B _ _ _ (by simpa using hbj) ?_
    simp; omega
  · rintro x r env1 s1 l1 ⟨a, b, y, ee, hg, hz⟩ Nx hN
    subst ee
    by_cases hb : 0 < b
    · have hz : (itS r.length b (a % b)).2 = 0 := by rw [List.length_cons, show itS (r.length + 1) a b = itS r.length b (a % b) from if_pos hb] at hz; exact hz
      refine g1 (p_asgG (a := .tup [.int (b : Int), .int ((a : Int) % (b : Int))]) (e_if (b := true) (by rw [show true = decide ((0 : Int) < (b : Int)) from (decide_eq_true (by omega)).symm]; exact b_tb (e_gt (e_var rfl) e_c)) (fun _ => e_tup (ds := [_, _]) (a_is (e_var rfl) (a_is (e_mod (e_int (e_var rfl)) (e_var rfl) (by omega)) a_nil)) (Nat.le_of_ble_eq_true rfl)) nofun) fun s2 l2 => g2 (hN _ _ l2 ⟨b, a % b, some x, rfl, ?_, hz⟩))
      rw [← hg, Nat.gcd_comm a b, Nat.gcd_rec b a, Nat.gcd_comm]
    · have hb0 : b = 0 := by omega
      subst hb0
      refine g1 (p_asgG (a := .tup [.int (a : Int), .int 0]) (e_if (b := false) (b_tb (e_gt (i := ((0 : Nat) : Int)) (j := 0) (e_var rfl) e_c)) nofun (fun _ => e_tup (ds := [_, _]) (a_is (e_var rfl) (a_is e_c a_nil)) (Nat.le_of_ble_eq_true rfl))) fun s2 l2 => g2 (hN _ _ l2 ⟨a, 0, some x, rfl, hg, by rw [itS_zero]⟩))
  · rintro env1 s1 l1 ⟨a, b, y, ee, hg, hz⟩
    subst ee
    have hb : b = 0 := hz
    subst hb
    dsimp only
    refine p_retI (a := .int (a : Int)) (E := En0 P) (e_var rfl) fun s2 l2 => ?_
    have := h s2 ((l.trans l1).trans l2)
    rw [← hg, Nat.gcd_zero_right] at this
    exact this
/-! rationals -/
def sp__law_round_one : DSp := fun ds st P => ∃ a b : Int, ds = [.int a, .int b] ∧ 0 < b ∧ Sml 9000 b ∧ Ret st (cf a b) P
theorem ok__law_round_one (ds : List D) (st : Sto) (P : DP) (h : sp__law_round_one ds st P) : w__law_round_one sp__law_common (En0 P) (startE 4 ds) st := by
  obtain ⟨a, b, rfl, h0, h1, h⟩ := h
  have r0 := Int.emod_nonneg a (Int.ne_of_gt h0)
  have r1 := Int.emod_lt_of_pos a h0
  have hp := gcd_pos (a := a % b) h0
  have hl := gcd_le (a := a % b) h0
  refine p_asgI (e_mod (e_int (e_var rfl)) (e_var rfl) h0) fun s l => p_asgI (e_def2 (e_var rfl) (e_var rfl) fun s _ P p => ⟨a % b, b, rfl, (h1.mono (by decide)).of_le (by omega), h1.mono (by decide), Ret.evp p⟩) fun s2 l2 => ?_
  have hb9 := h1.lt (by decide)
  exact p_retI (e_tup (ds := [_, _]) (a_is (e_div (e_var rfl) (e_var rfl) (by omega) (by omega)) (a_is (e_div (e_var rfl) (e_var rfl) (by omega) (by omega)) a_nil)) (Nat.le_of_ble_eq_true rfl)) fun s3 l3 => h s3 ((l.trans l2).trans l3)
def sp__law_added : DSp := fun ds st P => ∃ x y L : Int, ds = [cf x L, cf y L] ∧ 0 < L ∧ Sml 3000 L ∧ Ret st (cf (x + y) L) P
theorem cf_sml {x L : Int} (h : 0 < L) (s : Sml 3000 L) : Sml 3000 (cA x L) ∧ Sml 3000 (cB x L) ∧ 0 < cB x L := by
  obtain ⟨a0, a1, a2, _⟩ := cAB (x := x) h
  exact ⟨s.of_le (by omega), s.of_le (by omega), by omega⟩
theorem ok__law_added (ds : List D) (st : Sto) (P : DP) (h : sp__law_added ds st P) : w__law_added sp__law_round_one (En0 P) (startE 2 ds) st := by
  obtain ⟨x, y, L, rfl, h0, h1, h⟩ := h
  obtain ⟨x1, x2, x3⟩ := cf_sml (x := x) h0 h1
  obtain ⟨y1, y2, y3⟩ := cf_sml (x := y) h0 h1
  refine p_retI (a := cf (x + y) L) ?_ h
  rw [← cf_added h0]
  exact e_def2 (e_add (e_mul (e_idx (n := 0) (xs := [.int (cA x L), .int (cB x L)]) (e_var rfl) e_c rfl) (e_idx (n := 1) (xs := [.int (cA y L), .int (cB y L)]) (e_var rfl) e_c rfl) (x1.cm y2)) (e_mul (e_idx (n := 0) (xs := [.int (cA y L), .int (cB y L)]) (e_var rfl) e_c rfl) (e_idx (n := 1) (xs := [.int (cA x L), .int (cB x L)]) (e_var rfl) e_c rfl) (y1.cm x2)))
    (e_mul (e_idx (n := 1) (xs := [.int (cA x L), .int (cB x L)]) (e_var rfl) e_c rfl) (e_idx (n := 1) (xs := [.int (cA y L), .int (cB y L)]) (e_var rfl) e_c rfl) (x2.cm y2)) fun s _ P p => ⟨_, _, rfl, Int.mul_pos x3 y3, (x2.mul y2).mono (by decide), Ret.evp p⟩
def sp__law_times : DSp := fun ds st P => ∃ x n L : Int, ds = [cf x L, .int n] ∧ 0 < L ∧ Sml 3000 L ∧ Sml 3000 n ∧ Ret st (cf (x * n) L) P
theorem ok__law_times (ds : List D) (st : Sto) (P : DP) (h : sp__law_times ds st P) : w__law_times sp__law_round_one (En0 P) (startE 2 ds) st := by
  obtain ⟨x, n, L, rfl, h0, h1, hn, h⟩ := h
  obtain ⟨x1, x2, x3⟩ := cf_sml (x := x) h0 h1
  refine p_retI (a := cf (x * n) L) ?_ h
  rw [← cf_times h0]
  exact e_def2 (e_mul (e_idx (n := 0) (xs := [.int (cA x L), .int (cB x L)]) (e_var rfl) e_c rfl) (e_var rfl) (x1.cm hn)) (e_idx (n := 1) (xs := [.int (cA x L), .int (cB x L)]) (e_var rfl) e_c rfl) fun s _ P p => ⟨_, _, rfl, x3, x2.mono (by decide), Ret.evp p⟩
end K11

set_option Elab.async false
set_option linter.all false
set_option maxRecDepth 100000
set_option maxHeartbeats 1000000
/-! k11, part i: the law's own worths, orders, rows; beside; all_rows. -/
namespace K11
open PySem PySem.Spec PyProof.Rows L2 DX

/-! _law_plain -/
def sp__law_plain : DSp := fun ds st P => ∃ (o : List Int) (w : List (List (Int × Int))) (ns : List Int) (d : D), ds = [kD o w, d] ∧ Sq none (inz ns) d st ∧ o.length ≤ 10 ∧ (∀ x ∈ o, 2 ≤ x) ∧ Ret st (tI (plainL o ns)) P
theorem ok__law_plain (ds : List D) (st : Sto) (P : DP) (h : sp__law_plain ds st P) : w__law_plain (En0 P) (startE 4 ds) st := by
  obtain ⟨o, w, ns, d, rfl, hd, hl, hz, h⟩ := h
  exact p_retI (e_tupL (e_zipF (fun n x => n % x) nofun (e_varV rfl mono_sq hd) (Evl.sqT (e_idx (n := 0) (xs := [tI o, wsD w]) (e_var rfl) e_c rfl)) (by omega) fun n x _ hx s l => e_mod (e_int (e_var rfl)) (e_var rfl) (by have := hz x hx; omega))) h
/-! _law_put -/
def putL (by_ : Int) (ns us : List Int) : List Int := List.zipWith (fun a b => a + by_ * b) ns us
def sp__law_put : DSp := fun ds st P => ∃ (k : D) (ns us : List Int) (b : Int), ds = [k, tI ns, tI us, .int b] ∧ us.length ≤ 10 ∧ Sml 400 b ∧ (∀ x ∈ us, Sml 400 x) ∧ Ret st (tI (putL b ns us)) P
theorem ok__law_put (ds : List D) (st : Sto) (P : DP) (h : sp__law_put ds st P) : w__law_put (En0 P) (startE 6 ds) st := by
  obtain ⟨k, ns, us, b, rfl, hl, hb, hu, h⟩ := h
  exact p_retI (e_tupL (e_zipF (fun x y => x + b * y) nofun (Evl.sqT (e_var rfl)) (Evl.sqT (e_var rfl)) (by omega) fun n x _ hx s l => e_add (e_var rfl) (e_mul (e_var rfl) (e_var rfl) (hb.cm (hu x hx))))) h
/-! _law_worth, _law_pairing -/
/-- the law's way: part by part -/
def Tq (w : List (List (Int × Int))) (r : Nat → Int) (k : Nat) : Int := Sm k fun i => Sm (i + 1) fun j => shr w i j * (r i * r j)
theorem shr_part {o w} (k : Kind o w) {i j : Nat} (hi : i < w.length) (hj : j ≤ i) : fD (partA w i j) = cf (shr w i j) (lev w) := cf_part (partA_fr k hi hj) k.lev_facts.1 (partA_dvd k hi hj)
def sp__law_worth : DSp := fun ds st P => ∃ (o : List Int) (w : List (List (Int × Int))) (ns : List Int), ds = [kD o w, tI ns] ∧ Kind o w ∧ ns.length = w.length ∧ (∀ x ∈ ns, Sml 1000 x) ∧ Ret st (cf (Tq w (rf ns) w.length) (lev w)) P
theorem ok__law_worth (ds : List D) (st : Sto) (P : DP) (h : sp__law_worth ds st P) : w__law_worth sp__law_added sp__law_times (En0 P) (startE 7 ds) st := by
  obtain ⟨o, w, ns, rfl, k, hl, hb, h⟩ := h
  obtain ⟨L0, L1, _⟩ := k.lev_facts
  have L3 : Sml 3000 (lev w) := L1.mono (by decide)
  have hrf := fun i => rf_sml hb i
  refine p_asgI (e_tup (ds := [.int 0, .int 1]) (a_is e_c (a_is e_c a_nil)) (Nat.le_of_ble_eq_true rfl)) fun s l => ?_
  have e0 : (D.tup [.int 0, .int 1]) = cf (Tq w (rf ns) 0) (lev w) := cf_zero L0
  refine p_for (i_enum (Evl.sqT (xs := w.map toldD) (e_idx (n := 1) (xs := [tI o, wsD w]) (e_var rfl) e_c rfl))) (fun re env1 _ => ∃ (q m : List (List (Int × Int))) (x3 x4 x5 x6 : Option D), w = q ++ m ∧ re = enumD q.length (m.map toldD) ∧ env1 = [some (kD o w), some (tI ns), some (cf (Tq w (rf ns) q.length) (lev w)), x3, x4, x5, x6]) (fun _ _ => ⟨[], w, none, none, none, none, rfl, rfl, by rw [show ([] : List (List (Int × Int))).length = 0 from rfl, ← e0]; rfl⟩) ?_ ?_
  · rintro x re env1 s1 l1 ⟨q, m, x3, x4, x5, x6, e, er, ee⟩ Nx hN
    obtain ⟨d, as, em, ex, er2⟩ := enumD_cons er
    obtain ⟨told, m', rfl, rfl, rfl⟩ := map_cons em
    subst ee ex
    have hq : q.length < w.length := by rw [e]; simp
    have hw : w[q.length]? = some told := by rw [e]; simp
    have ht := k.tri _ _ hw
    have en : ∀ {i : Nat}, i < w.length → (inz ns)[i]? = some (.int (rf ns i)) := fun {i} hi => by
      rw [List.getElem?_map]
      unfold rf
      rw [List.getD_eq_getElem?_getD]
      obtain ⟨x, hx⟩ : ∃ x, ns[i]? = some x := ⟨_, List.getElem?_eq_getElem (by omega)⟩
      rw [hx]; rfl
    refine g2 (p_for (i_enum (Evl.sqT (xs := told.map fD) (e_var rfl))) (fun re env1 _ => ∃ (q2 m2 : List (Int × Int)) (x5 x6 : Option D), told = q2 ++ m2 ∧ re = enumD q2.length (m2.map fD) ∧ env1 = [some (kD o w), some (tI ns), some (cf (Tq w (rf ns) q.length + Sm q2.length fun j => shr w q.length j * (rf ns q.length * rf ns j)) (lev w)), some (.int q.length), some (toldD told), x5, x6]) (fun _ _ => ⟨[], told, x5, x6, rfl, rfl, by
      rw [show (Sm ([] : List (Int × Int)).length fun j => shr w q.length j * (rf ns q.length * rf ns j)) = 0 from rfl, Int.add_zero]; rfl⟩) ?_ ?_)
    · rintro x re env1 s2 l2 ⟨q2, m2, x5, x6, e2, er, ee⟩ Nx2 hN2
      obtain ⟨d, as, em, ex, er3⟩ := enumD_cons er
      obtain ⟨p, m2', rfl, rfl, rfl⟩ := map_cons em
      subst ee ex
      have hj : q2.length ≤ q.length := by rw [e2] at ht; simp at ht; omega
      have hp : told[q2.length]? = some p := by rw [e2]; simp
      obtain ⟨told', t1, t2⟩ := partA_get k hq hj
      rw [hw] at t1; cases t1
      rw [hp] at t2
      have ep : p = partA w q.length q2.length := by simpa using t2
      have epd : fD p = cf (shr w q.length q2.length) (lev w) := by rw [ep]; exact shr_part k hq hj
      refine g2 (p_asgI (e_def2 (a := cf (Tq w (rf ns) q.length + Sm q2.length fun j => shr w q.length j * (rf ns q.length * rf ns j)) (lev w)) (b := cf (shr w q.length q2.length * (rf ns q.length * rf ns q2.length)) (lev w)) (e_var rfl) (e_def2 (a := fD p) (e_var rfl) (e_mul (e_idx (n := q.length) (e_var rfl) (e_var rfl) (en hq)) (e_idx (n := q2.length) (e_var rfl) (e_var rfl) (en (by omega))) ((hrf _).cm (hrf _))) fun s _ P q => ⟨_, _, _, by rw [epd], L0, L3, ((hrf _).mul (hrf _)).mono (by decide), Ret.evp q⟩) fun s _ P q => ⟨_, _, _, rfl, L0, L3, Ret.evp q⟩) fun s3 l3 => hN2 _ _ l3 ⟨q2 ++ [p], m2', some (.int q2.length), some (fD p), by rw [e2]; simp, by rw [er3]; simp, ?_⟩)
      have : (Sm (q2 ++ [p]).length fun j => shr w q.length j * (rf ns q.length * rf ns j)) = (Sm q2.length fun j => shr w q.length j * (rf ns q.length * rf ns j)) + shr w q.length q2.length * (rf ns q.length * rf ns q2.length) := by rw [List.length_append]; rfl
      rw [this, ← Int.add_assoc]
      rfl
    · rintro env1 s2 l2 ⟨q2, m2, x5, x6, e2, er, ee⟩
      have hm : m2 = [] := by
        cases m2 with
        | nil => rfl
        | cons y m => cases er
      subst ee hm
      rw [List.append_nil] at e2
      subst e2
      refine hN _ _ l2 ⟨q ++ [told], m', some (.int q.length), some (toldD told), x5, x6, by rw [e]; simp, by rw [er2]; simp, ?_⟩
      have : Tq w (rf ns) (q ++ [told]).length = Tq w (rf ns) q.length + Sm told.length fun j => shr w q.length j * (rf ns q.length * rf ns j) := by rw [List.length_append, ht]; rfl
      rw [this]
  · rintro env1 s1 l1 ⟨q, m, x3, x4, x5, x6, e, er, ee⟩
    have hm : m = [] := by
      cases m with
      | nil => rfl
      | cons y m => cases er
    subst ee hm
    rw [List.append_nil] at e
    subst e
    dsimp only
    exact p_retI (E := En0 P) (e_var rfl) fun s2 l2 => h s2 ((l.trans l1).trans l2)
def addL (ns us : List Int) : List Int := List.zipWith (fun a b => a + b) ns us
theorem zipWith_mem {f : Int → Int → Int} {q : Int → Prop} : ∀ {ns us : List Int}, (∀ a b, a ∈ ns → b ∈ us → q (f a b)) → ∀ x ∈ List.zipWith f ns us, q x
  | [], us, _, x, hx => by simp at hx
  | _ :: _, [], _, x, hx => by simp at hx
  | a :: ns, b :: us, h, x, hx => by
    rcases List.mem_cons.mp (show x ∈ f a b :: List.zipWith f ns us from hx) with e | e
    · rw [e]; exact h a b List.mem_cons_self List.mem_cons_self
    · exact zipWith_mem (fun a b ha hb => h a b (List.mem_cons_of_mem _ ha) (List.mem_cons_of_mem _ hb)) x e
def Pq (w : List (List (Int × Int))) (ns us : List Int) : Int := Tq w (rf (addL ns us)) w.length + (Tq w (rf ns) w.length + Tq w (rf us) w.length) * (-1)
def sp__law_pairing : DSp := fun ds st P => ∃ (o : List Int) (w : List (List (Int × Int))) (ns us : List Int), ds = [kD o w, tI ns, tI us] ∧ Kind o w ∧ ns.length = w.length ∧ us.length = w.length ∧ (∀ x ∈ ns, Sml 400 x) ∧ (∀ x ∈ us, Sml 400 x) ∧ Ret st (cf (Pq w ns us) (lev w)) P
theorem ok__law_pairing (ds : List D) (st : Sto) (P : DP) (h : sp__law_pairing ds st P) : w__law_pairing sp__law_worth sp__law_added sp__law_times (En0 P) (startE 6 ds) st := by
  obtain ⟨o, w, ns, us, rfl, k, hl, hlu, hb, hbu, h⟩ := h
  obtain ⟨L0, L1, _⟩ := k.lev_facts
  have L3 : Sml 3000 (lev w) := L1.mono (by decide)
  refine p_asgI (e_def2 (e_var rfl) (e_tupL (e_zipF (fun a b => a + b) nofun (Evl.sqT (e_var rfl)) (Evl.sqT (e_var rfl)) (by have := k.wl; omega) fun n x _ _ s l => e_add (e_var rfl) (e_var rfl))) fun s _ P q => ⟨o, w, addL ns us, rfl, k, by unfold addL; simp; omega, zipWith_mem fun a b ha hb' => (Sml.add (hb a ha) (hbu b hb')).mono (by decide), Ret.evp q⟩) fun s l => ?_
  exact p_retI (e_def2 (a := cf (Tq w (rf (addL ns us)) w.length) (lev w)) (e_var rfl) (e_def2 (e_def2 (e_def2 (e_var rfl) (e_var rfl) fun s _ P q => ⟨o, w, ns, rfl, k, hl, fun x hx => (hb x hx).mono (by decide), Ret.evp q⟩) (e_def2 (e_var rfl) (e_var rfl) fun s _ P q => ⟨o, w, us, rfl, k, hlu, fun x hx => (hbu x hx).mono (by decide), Ret.evp q⟩) fun s _ P q => ⟨_, _, _, rfl, L0, L3, Ret.evp q⟩) (e_neg e_c) fun s _ P q => ⟨_, -1, _, rfl, L0, L3, by unfold Sml; decide, Ret.evp q⟩) fun s _ P q => ⟨_, _, _, rfl, L0, L3, Ret.evp q⟩) fun s2 l2 => h s2 (l.trans l2)
/-! _law_order -/
theorem orderL_comm (o ns : List Int) : orderL o ns = lcmL (List.zipWith (fun n x => x / (Int.gcd n x : Nat)) ns o) := by
  unfold orderL
  rw [List.zipWith_comm]
  simp only [Int.gcd_comm]
def sp__law_order : DSp := fun ds st P => ∃ (o : List Int) (w : List (List (Int × Int))) (ns : List Int), ds = [kD o w, tI ns] ∧ o.length ≤ 10 ∧ (∀ x ∈ o, 2 ≤ x ∧ x ≤ 1024) ∧ (∀ x ∈ ns, Sml 1000 x) ∧ Ret st (.int (orderL o ns)) P
theorem ok__law_order (ds : List D) (st : Sto) (P : DP) (h : sp__law_order ds st P) : w__law_order sp__law_common (En0 P) (startE 6 ds) st := by
  obtain ⟨o, w, ns, rfl, hl, ho, hb, h⟩ := h
  refine p_asgI e_c fun s l => ?_
  refine p_for (i_zip (Evl.sqT (e_var rfl)) (Evl.sqT (xs := inz o) (e_idx (n := 0) (xs := [tI o, wsD w]) (e_var rfl) e_c rfl))) (fun re env1 _ => ∃ (q m qo mo : List Int) (x3 x4 x5 : Option D), ns = q ++ m ∧ o = qo ++ mo ∧ q.length = qo.length ∧ re = zipD (inz m) (inz mo) ∧ env1 = [some (kD o w), some (tI ns), some (.int (lcmL (List.zipWith (fun n x => x / (Int.gcd n x : Nat)) q qo))), x3, x4, x5] ∧
      0 < lcmL (List.zipWith (fun n x => x / (Int.gcd n x : Nat)) q qo) ∧ Sml (13 * q.length + 1) (lcmL (List.zipWith (fun n x => x / (Int.gcd n x : Nat)) q qo))) (fun _ _ => ⟨[], ns, [], o, none, none, none, rfl, rfl, rfl, rfl, rfl, by decide, by unfold Sml; decide⟩) ?_ ?_
  · rintro x re env1 s1 l1 ⟨q, m, qo, mo, x3, x4, x5, e, eo, eq, er, ee, h0, hs⟩ Nx hN
    obtain ⟨d, as, d2, bs, em, emo, ex, er2⟩ := zipD_cons er
    obtain ⟨n, m', rfl, rfl, rfl⟩ := map_cons em
    obtain ⟨y, mo', rfl, rfl, rfl⟩ := map_cons emo
    subst ee ex
    obtain ⟨y2, y3⟩ := ho y (by rw [eo]; simp)
    have sn := hb n (by rw [e]; simp)
    have hql : q.length ≤ 10 := by rw [eq]; rw [eo] at hl; simp at hl; omega
    have sy : Sml 13 y := by unfold Sml; show _ < 8192; omega
    obtain ⟨q0, q1⟩ := quo_facts (n := n) y2 y3
    rw [Int.gcd_comm] at q0 q1
    have gp : 0 < Int.gcd n y := Int.gcd_pos_of_ne_zero_right _ (by omega)
    have gl : (Int.gcd n y : Int) ≤ y := gcd_le (by omega)
    have gl2 := gcd_le (a := lcmL (List.zipWith (fun n x => x / (Int.gcd n x : Nat)) q qo)) q0
    have gp2 := gcd_pos (a := lcmL (List.zipWith (fun n x => x / (Int.gcd n x : Nat)) q qo)) q0
    have y9 := sy.lt (by decide)
    have q9 := q1.lt (by decide)
    have eL : lcmL (List.zipWith (fun n x => x / (Int.gcd n x : Nat)) (q ++ [n]) (qo ++ [y])) = (Int.lcm (lcmL (List.zipWith (fun n x => x / (Int.gcd n x : Nat)) q qo)) (y / (Int.gcd n y : Nat)) : Nat) := by
      rw [List.zipWith_append eq, show List.zipWith (fun (n x : Int) => x / (Int.gcd n x : Nat)) [n] [y] = [y / (Int.gcd n y : Nat)] from rfl, lcmL_snoc]
    refine g2 (p_asgI (e_div (e_var rfl) (e_def2 (e_var rfl) (e_var rfl) fun s _ P p => ⟨n, y, rfl, sn.mono (by decide), sy.mono (by decide), Ret.evp p⟩) (by omega) (by omega)) fun s2 l2 => p_asgI (e_div (e_mul (e_var rfl) (e_var rfl) (hs.cm q1 (by omega))) (e_def2 (e_var rfl) (e_var rfl) fun s _ P p => ⟨_, _, rfl, hs.mono (by omega), q1.mono (by decide), Ret.evp p⟩) (by omega) (by omega)) fun s3 l3 => hN _ _ (l2.trans l3) ⟨q ++ [n], m', qo ++ [y], mo', some (.int n), some (.int y), some (.int (y / (Int.gcd n y : Nat))), by rw [e]; simp, by rw [eo]; simp, by simp [eq], er2, ?_, ?_, ?_⟩)
    · rw [eL, lcm_div h0 q0]; rfl
    · rw [eL]; exact lcm_pos h0 q0
    · rw [eL]; exact (lcm_sml h0 q0 hs q1).mono (by simp; omega)
  · rintro env1 s1 l1 ⟨q, m, qo, mo, x3, x4, x5, e, eo, eq, er, ee, h0, hs⟩
    subst ee
    have ez : List.zipWith (fun n x => x / (Int.gcd n x : Nat)) ns o = List.zipWith (fun n x => x / (Int.gcd n x : Nat)) q qo := by
      rw [e, eo, List.zipWith_append eq]
      cases m with
      | nil => simp
      | cons a m =>
        cases mo with
        | nil => simp
        | cons b mo => cases er
    dsimp only
    refine p_retI (E := En0 P) (e_var rfl) fun s2 l2 => ?_
    have := h s2 ((l.trans l1).trans l2)
    rw [orderL_comm, ez] at this
    exact this
/-! beside -/
theorem zeros_tup (n : Nat) : (List.replicate n [g_NOUGHT]).flatten = (List.replicate n ((0 : Int), (1 : Int))).map fD := by
  induction n with
  | zero => rfl
  | succ n ih => rw [List.replicate_succ, List.flatten_cons, ih, List.replicate_succ]; rfl
def besW (o : List Int) (w v : List (List (Int × Int))) : List (List (Int × Int)) := w ++ v.map fun told => List.replicate o.length ((0 : Int), (1 : Int)) ++ told
def sp_beside_by : DSp := fun ds st P => ∃ (o p : List Int) (w v : List (List (Int × Int))), ds = [kD o w, kD p v] ∧ Kind o w ∧ Kind p v ∧ Ret st (kD (o ++ p) (besW o w v)) P
theorem ok_beside_by (ds : List D) (st : Sto) (P : DP) (h : sp_beside_by ds st P) : w_beside_by (En0 P) (startE 4 ds) st := by
  obtain ⟨o, p, w, v, rfl, k, kp, h⟩ := h
  have := k.n10
  have := kp.n10
  have := k.wl
  have := kp.wl
  refine p_asgI (a := toldD (List.replicate o.length ((0 : Int), (1 : Int)))) ?_ fun s l => ?_
  · have := e_bin (t := none) (r := rMul) (a := .tup [g_NOUGHT]) (b := .int ((inz o).length : Int)) (c := .tup (List.replicate ((inz o).length : Int).toNat [g_NOUGHT]).flatten) (env := startE 4 [kD o w, kD p v]) (st := st) (wa := wTup (wCons (wC g_NOUGHT) wNil)) (e_tup (ds := [g_NOUGHT]) (a_is e_c a_nil) (Nat.le_of_ble_eq_true rfl)) (e_lenT (e_idx (n := 0) (xs := [tI o, wsD w]) (e_var (i := 0) rfl) e_c rfl)) fun s P q => ⟨⟨nofun, by simp, by simp; omega, Nat.le_of_ble_eq_true rfl⟩, q⟩
    rw [Int.toNat_natCast, List.length_map, zeros_tup] at this
    exact this
  · have ew : (D.tup ((w.map toldD) ++ ((v.map toldD).map fun d => match d with | .tup ys => .tup ((List.replicate o.length ((0 : Int), (1 : Int))).map fD ++ ys) | d => d))) = wsD (besW o w v) := by
      unfold besW
      simp only [wsD, List.map_append, List.map_map]
      refine congrArg (fun z => D.tup (_ ++ z)) (List.map_congr_left fun told _ => ?_)
      show D.tup _ = D.tup _
      rw [List.map_append]
    have eo : (D.tup (inz o ++ inz p)) = tI (o ++ p) := by simp [inz]
    dsimp only
    refine p_retI (E := En0 P) (a := kD (o ++ p) (besW o w v)) ?_ fun s2 l2 => h s2 (l.trans l2)
    unfold kD
    rw [← ew, ← eo]
    refine e_tup (ds := [_, _]) (a_is (e_addT (e_idx (n := 0) (xs := [tI o, wsD w]) (e_var rfl) e_c rfl) (e_idx (n := 0) (xs := [tI p, wsD v]) (e_var rfl) e_c rfl) (by simp; omega)) (a_is (e_addT (e_idx (n := 1) (xs := [tI o, wsD w]) (e_var rfl) e_c rfl) (e_tupL (e_lc _ nofun (i_tup (xs := v.map toldD) (e_idx (n := 1) (xs := [tI p, wsD v]) (e_var rfl) e_c rfl)) (by simp; omega) fun x hx s l P q => ?_)) (by simp; omega)) a_nil)) (Nat.le_of_ble_eq_true rfl)
    obtain ⟨told, ht, rfl⟩ := List.mem_map.mp hx
    have := kp.tl ht
    exact g1 (q _ (e_addT (e_var rfl) (e_var rfl) (by simp; omega)))
def sp_beside : DSp := fun ds st P => ∃ (o p : List Int) (w v : List (List (Int × Int))), ds = [kD o w, kD p v] ∧ Kind o w ∧ Kind p v ∧ o.foldl (· * ·) 1 * p.foldl (· * ·) 1 ≤ 1024 ∧ 0 ≤ o.foldl (· * ·) 1 ∧ 0 ≤ p.foldl (· * ·) 1 ∧ Ret st (kD (o ++ p) (besW o w v)) P
theorem ok_beside (ds : List D) (st : Sto) (P : DP) (h : sp_beside ds st P) : w_beside sp_check_kind sp_size_by sp_beside_by (En0 P) (startE 2 ds) st := by
  obtain ⟨o, p, w, v, rfl, k, kp, hm, z1, z2, h⟩ := h
  have s1 : Sml 11 (o.foldl (· * ·) 1) := by have := k.size; unfold Sml; show _ < 2048; omega
  have s2 : Sml 11 (p.foldl (· * ·) 1) := by have := kp.size; unfold Sml; show _ < 2048; omega
  refine p_drop (V := Is .non) (e_def1 (e_var rfl) fun s _ P q => ⟨o, w, rfl, k, Ret.evp q⟩) fun s l => p_drop (V := Is .non) (e_def1 (e_var rfl) fun s _ P q => ⟨p, v, rfl, kp, Ret.evp q⟩) fun s' l' => ?_
  dsimp only
  refine p_no (u := wNext) ?_ fun s3 l3 => ?_
  case refine_2 =>
    unfold wNext
    dsimp only
    exact p_retI (E := En0 P) (e_def2 (e_var rfl) (e_var rfl) fun s _ P q => ⟨o, p, w, v, rfl, k, kp, Ret.evp q⟩) fun s4 l4 => h s4 (((l.trans l').trans l3).trans l4)
  have e : decide ((1024 : Int) < o.foldl (· * ·) 1 * p.foldl (· * ·) 1) = false := decide_eq_false (by omega)
  rw [← e]
  exact b_tb (e_gt (e_mul (e_def1 (e_var rfl) fun s _ P q => ⟨o, w, rfl, k.n10, fun x hx => k.so hx, Ret.evp q⟩) (e_def1 (e_var rfl) fun s _ P q => ⟨p, v, rfl, kp.n10, fun x hx => kp.so hx, Ret.evp q⟩) (s1.cm s2)) e_c)
end K11

set_option Elab.async false
set_option linter.all false
set_option maxRecDepth 100000
set_option maxHeartbeats 1000000
/-! k11, part n: the square form. -/
namespace K11
open PySem PySem.Spec PyProof.Rows L2 DX

theorem Sm.add {f g : Nat → Int} : ∀ {n : Nat}, (Sm n fun i => f i + g i) = Sm n f + Sm n g
  | 0 => rfl
  | n + 1 => by
    show (Sm n fun i => f i + g i) + (f n + g n) = (Sm n f + f n) + (Sm n g + g n)
    rw [Sm.add (n := n)]; omega
theorem Sm.mul {f : Nat → Int} (c : Int) : ∀ {n : Nat}, (Sm n fun i => c * f i) = c * Sm n f
  | 0 => by simp [Sm]
  | n + 1 => by
    show (Sm n fun i => c * f i) + c * f n = c * (Sm n f + f n)
    rw [Sm.mul c (n := n), Int.mul_add]
theorem Sm.dvd {L : Int} {f : Nat → Int} : ∀ {n : Nat}, (∀ i, i < n → L ∣ f i) → L ∣ Sm n f
  | 0, _ => Int.dvd_zero L
  | n + 1, h => Int.dvd_add (Sm.dvd fun i hi => h i (Nat.lt_succ_of_lt hi)) (h n (Nat.lt_succ_self n))
theorem Sm.split {f : Nat → Int} (n : Nat) : ∀ {m : Nat}, Sm (n + m) f = Sm n f + Sm m fun i => f (n + i)
  | 0 => by simp [Sm]
  | m + 1 => by
    show Sm (n + m) f + f (n + m) = Sm n f + ((Sm m fun i => f (n + i)) + f (n + m))
    rw [Sm.split n (m := m)]; omega
section
variable (s : Nat → Nat → Int)
def Qz (r : Nat → Int) : Nat → Int
  | 0 => 0
  | k + 1 => Qz r k + r k * (r k * s k k + Sm k fun j => r j * s k j)
def Bz (r u : Nat → Int) : Nat → Int
  | 0 => 0
  | k + 1 => Bz r u k + (2 * (r k * u k * s k k) + (r k * (Sm k fun j => u j * s k j) + u k * (Sm k fun j => r j * s k j)))
variable {s}
theorem Qz_ext {r u : Nat → Int} : ∀ {n : Nat}, (∀ i, i < n → r i = u i) → Qz s r n = Qz s u n
  | 0, _ => rfl
  | n + 1, h => by
    unfold Qz
    rw [Qz_ext fun i hi => h i (Nat.lt_succ_of_lt hi), h n (Nat.lt_succ_self n), Sm.ext (g := fun j => u j * s n j) fun i hi => by rw [h i (Nat.lt_succ_of_lt hi)]]
theorem Bz_ext {r u r' u' : Nat → Int} : ∀ {n : Nat}, (∀ i, i < n → r i = r' i) → (∀ i, i < n → u i = u' i) → Bz s r u n = Bz s r' u' n
  | 0, _, _ => rfl
  | n + 1, h, g => by
    unfold Bz
    rw [Bz_ext (fun i hi => h i (Nat.lt_succ_of_lt hi)) fun i hi => g i (Nat.lt_succ_of_lt hi), h n (Nat.lt_succ_self n), g n (Nat.lt_succ_self n), Sm.ext (f := fun j => u j * s n j) (g := fun j => u' j * s n j) fun i hi => by rw [g i (Nat.lt_succ_of_lt hi)],
      Sm.ext (f := fun j => r j * s n j) (g := fun j => r' j * s n j) fun i hi => by rw [h i (Nat.lt_succ_of_lt hi)]]
theorem Qz_add {r u : Nat → Int} : ∀ {n : Nat}, Qz s (fun i => r i + u i) n = Qz s r n + Qz s u n + Bz s r u n
  | 0 => rfl
  | n + 1 => by
    unfold Qz Bz
    rw [Qz_add (n := n), Sm.ext (f := fun j => (r j + u j) * s n j) (g := fun j => r j * s n j + u j * s n j) fun i _ => Int.add_mul .., Sm.add]
    generalize (Sm n fun j => r j * s n j) = a
    generalize (Sm n fun j => u j * s n j) = b
    generalize s n n = c
    generalize Qz s r n = x
    generalize Qz s u n = y
    generalize Bz s r u n = z
    generalize r n = p
    generalize u n = q
    grind
theorem Bz_comm {r u : Nat → Int} : ∀ {n : Nat}, Bz s r u n = Bz s u r n
  | 0 => rfl
  | n + 1 => by unfold Bz; rw [Bz_comm (n := n), Int.mul_comm (r n) (u n)]; omega
theorem Bz_add {r u v : Nat → Int} : ∀ {n : Nat}, Bz s r (fun i => u i + v i) n = Bz s r u n + Bz s r v n
  | 0 => rfl
  | n + 1 => by
    unfold Bz
    rw [Bz_add (n := n), Sm.ext (f := fun j => (u j + v j) * s n j) (g := fun j => u j * s n j + v j * s n j) fun i _ => Int.add_mul .., Sm.add]
    grind
theorem Bz_mul {r u : Nat → Int} (c : Int) : ∀ {n : Nat}, Bz s r (fun i => c * u i) n = c * Bz s r u n
  | 0 => by simp [Bz]
  | n + 1 => by
    unfold Bz
    rw [Bz_mul c (n := n), Sm.ext (f := fun j => c * u j * s n j) (g := fun j => c * (u j * s n j)) fun i _ => Int.mul_assoc .., Sm.mul]
    grind
theorem Qz_mul {r : Nat → Int} (c : Int) : ∀ {n : Nat}, Qz s (fun i => c * r i) n = c * c * Qz s r n
  | 0 => by simp [Qz]
  | n + 1 => by
    unfold Qz
    rw [Qz_mul c (n := n), Sm.ext (f := fun j => c * r j * s n j) (g := fun j => c * (r j * s n j)) fun i _ => Int.mul_assoc .., Sm.mul]
    grind
theorem Bz_self {r : Nat → Int} : ∀ {n : Nat}, Bz s r r n = 2 * Qz s r n
  | 0 => rfl
  | n + 1 => by unfold Bz Qz; rw [Bz_self (n := n)]; grind
/-! divided by the level -/
structure Div (s : Nat → Nat → Int) (o : Nat → Int) (L : Int) (n : Nat) : Prop where
  own : ∀ i, i < n → L ∣ s i i * (o i * o i) ∧ L ∣ s i i * (2 * o i)
  cross : ∀ i j, i < n → j < i → L ∣ s i j * o i ∧ L ∣ s i j * o j
theorem Bz_dvd {o : Nat → Int} {L : Int} {r c : Nat → Int} : ∀ {n : Nat}, Div s o L n → L ∣ Bz s r (fun i => o i * c i) n
  | 0, _ => Int.dvd_zero L
  | n + 1, d => by
    unfold Bz
    refine Int.dvd_add (Bz_dvd ⟨fun i hi => d.own i (by omega), fun i j hi hj => d.cross i j (by omega) hj⟩) (Int.dvd_add ?_ (Int.dvd_add ?_ ?_))
    · exact Int.dvd_trans (d.own n (by omega)).2 ⟨r n * c n, by grind⟩
    · refine Int.dvd_mul_of_dvd_right (Sm.dvd fun j hj => ?_)
      exact Int.dvd_trans (d.cross n j (by omega) hj).2 ⟨c j, by grind⟩
    · have e : (o n * c n) * (Sm n fun j => r j * s n j) = Sm n fun j => (o n * c n) * (r j * s n j) := (Sm.mul _).symm
      rw [e]
      refine Sm.dvd fun j hj => ?_
      exact Int.dvd_trans (d.cross n j (by omega) hj).1 ⟨c n * r j, by grind⟩
theorem Qz_dvd {o : Nat → Int} {L : Int} {c : Nat → Int} : ∀ {n : Nat}, Div s o L n → L ∣ Qz s (fun i => o i * c i) n
  | 0, _ => Int.dvd_zero L
  | n + 1, d => by
    unfold Qz
    refine Int.dvd_add (Qz_dvd ⟨fun i hi => d.own i (by omega), fun i j hi hj => d.cross i j (by omega) hj⟩) ?_
    rw [Int.mul_add]
    refine Int.dvd_add ?_ ?_
    · exact Int.dvd_trans (d.own n (by omega)).1 ⟨c n * c n, by grind⟩
    · refine Int.dvd_mul_of_dvd_right (Sm.dvd fun j hj => ?_)
      exact Int.dvd_trans (d.cross n j (by omega) hj).2 ⟨c j, by grind⟩
/-- rows that are alike by the orders -/
theorem Qz_like {o : Nat → Int} {L : Int} {r u c : Nat → Int} {n : Nat} (d : Div s o L n) (h : ∀ i, i < n → r i = u i + o i * c i) : Qz s r n % L = Qz s u n % L := by
  rw [Qz_ext h, Qz_add]
  rw [Int.emod_eq_emod_iff_emod_sub_eq_zero]
  refine Int.emod_eq_zero_of_dvd ?_
  have e : Qz s u n + Qz s (fun i => o i * c i) n + Bz s u (fun i => o i * c i) n - Qz s u n = Qz s (fun i => o i * c i) n + Bz s u (fun i => o i * c i) n := by omega
  rw [e]
  exact Int.dvd_add (Qz_dvd d) (Bz_dvd d)
theorem Bz_like {o : Nat → Int} {L : Int} {x r u c : Nat → Int} {n : Nat} (d : Div s o L n) (h : ∀ i, i < n → r i = u i + o i * c i) : Bz s x r n % L = Bz s x u n % L := by
  rw [Bz_ext (fun _ _ => rfl) h, Bz_add]
  rw [Int.emod_eq_emod_iff_emod_sub_eq_zero]
  refine Int.emod_eq_zero_of_dvd ?_
  have e : Bz s x u n + Bz s x (fun i => o i * c i) n - Bz s x u n = Bz s x (fun i => o i * c i) n := by omega
  rw [e]
  exact Bz_dvd d
end
/-! what the program reckons -/
section
variable {w : List (List (Int × Int))}
theorem Qf_eq {r : Nat → Int} : ∀ {n : Nat}, Qf w r n = Qz (shr w) r n
  | 0 => rfl
  | n + 1 => by
    unfold Qf Qz
    rw [Qf_eq (n := n), Sm.ext (f := fun j => r j * prA w n j) (g := fun j => r j * shr w n j) fun i hi => by
      unfold prA
      rw [if_neg (by omega), Nat.max_eq_left (by omega), Nat.min_eq_right (by omega)]]
theorem Tq_eq {r : Nat → Int} : ∀ {n : Nat}, Tq w r n = Qz (shr w) r n
  | 0 => rfl
  | n + 1 => by
    have ih := Tq_eq (r := r) (n := n)
    unfold Tq at ih ⊢
    rw [show (Sm (n + 1) fun i => Sm (i + 1) fun j => shr w i j * (r i * r j)) = (Sm n fun i => Sm (i + 1) fun j => shr w i j * (r i * r j)) + Sm (n + 1) fun j => shr w n j * (r n * r j) from rfl, ih]
    show _ = Qz (shr w) r n + r n * (r n * shr w n n + Sm n fun j => r j * shr w n j)
    clear ih
    rw [show (Sm (n + 1) fun j => shr w n j * (r n * r j)) = (Sm n fun j => shr w n j * (r n * r j)) + shr w n n * (r n * r n) from rfl]
    rw [Sm.ext (f := fun j => shr w n j * (r n * r j)) (g := fun j => r n * (r j * shr w n j)) fun i _ => by grind, Sm.mul]
    grind
/-- the pairing's table, whole -/
def pz (s : Nat → Nat → Int) (i j : Nat) : Int := if i = j then 2 * s i i else s (max i j) (min i j)
theorem DS_eq {s : Nat → Nat → Int} {r u : Nat → Int} : ∀ {n : Nat}, (Sm n fun i => r i * Sm n fun j => u j * pz s i j) = Bz s r u n
  | 0 => rfl
  | n + 1 => by
    unfold Bz
    rw [← DS_eq (n := n)]
    rw [show (Sm (n + 1) fun i => r i * Sm (n + 1) fun j => u j * pz s i j) = (Sm n fun i => r i * Sm (n + 1) fun j => u j * pz s i j) + r n * Sm (n + 1) fun j => u j * pz s n j from rfl]
    rw [Sm.ext (f := fun i => r i * Sm (n + 1) fun j => u j * pz s i j) (g := fun i => (r i * Sm n fun j => u j * pz s i j) + u n * (r i * s n i)) fun i hi => by
      rw [show (Sm (n + 1) fun j => u j * pz s i j) = (Sm n fun j => u j * pz s i j) + u n * pz s i n from rfl]
      have : pz s i n = s n i := by unfold pz; rw [if_neg (by omega), Nat.max_eq_right (by omega), Nat.min_eq_left (by omega)]
      rw [this]
      grind, Sm.add, Sm.mul]
    rw [show (Sm (n + 1) fun j => u j * pz s n j) = (Sm n fun j => u j * pz s n j) + u n * pz s n n from rfl]
    rw [Sm.ext (f := fun j => u j * pz s n j) (g := fun j => u j * s n j) fun i hi => by
      have : pz s n i = s n i := by unfold pz; rw [if_neg (by omega), Nat.max_eq_left (by omega), Nat.min_eq_right (by omega)]
      rw [this]]
    have : pz s n n = 2 * s n n := by unfold pz; rw [if_pos rfl]
    rw [this]
    grind
theorem Sm_mod {L : Int} {f g : Nat → Int} : ∀ {n : Nat}, (∀ i, i < n → L ∣ f i - g i) → L ∣ Sm n f - Sm n g
  | 0, _ => by simp [Sm]
  | n + 1, h => by
    have := Int.dvd_add (Sm_mod fun i hi => h i (Nat.lt_succ_of_lt hi)) (h n (Nat.lt_succ_self n))
    unfold Sm
    have e : Sm n f + f n - (Sm n g + g n) = Sm n f - Sm n g + (f n - g n) := by omega
    rw [e]; exact this
theorem Bf_sum {r u : Nat → Int} : ∀ {k : Nat}, Bf w r u k = Sm k fun i => r i * Sm w.length fun j => u j * prA w i j
  | 0 => rfl
  | k + 1 => by
    show Bf w r u k + r k * (Sm w.length fun j => u j * prA w k j) = (Sm k fun i => r i * Sm w.length fun j => u j * prA w i j) + r k * (Sm w.length fun j => u j * prA w k j)
    rw [Bf_sum (k := k)]
theorem Bf_eq {r u : Nat → Int} : Bf w r u w.length % lev w = Bz (shr w) r u w.length % lev w := by
  rw [Bf_sum, ← DS_eq, Int.emod_eq_emod_iff_emod_sub_eq_zero]
  refine Int.emod_eq_zero_of_dvd (Sm_mod fun i _ => ?_)
  rw [← Int.mul_sub]
  refine Int.dvd_mul_of_dvd_right (Sm_mod fun j _ => ?_)
  rw [← Int.mul_sub]
  refine Int.dvd_mul_of_dvd_right ?_
  unfold prA pz
  by_cases h : i = j
  · rw [if_pos h, if_pos h]
    have := Int.emod_add_mul_ediv (2 * shr w i i) (lev w)
    exact ⟨-(2 * shr w i i / lev w), by rw [Int.mul_neg]; omega⟩
  · rw [if_neg h, if_neg h, Int.sub_self]
    exact Int.dvd_zero _
theorem div_share {p : Int × Int} {L N : Int} (h0 : 0 < p.2) (h : p.2 ∣ p.1 * N) (hL : p.2 ∣ L) : L ∣ p.1 * (L / p.2) * N := by
  obtain ⟨z, hz⟩ := h
  obtain ⟨y, rfl⟩ := hL
  rw [Int.mul_ediv_cancel_left _ (by omega)]
  exact ⟨z, by rw [Int.mul_right_comm, hz]; grind⟩
theorem Kind.div {o} (k : Kind o w) : Div (shr w) (rf o) (lev w) w.length := by
  have ho : ∀ {i : Nat}, i < w.length → o[i]? = some (rf o i) := fun {i} hi => by
    unfold rf
    rw [List.getD_eq_getElem?_getD]
    obtain ⟨x, hx⟩ : ∃ x, o[i]? = some x := ⟨_, List.getElem?_eq_getElem (by rw [← k.len]; exact hi)⟩
    rw [hx]; rfl
  refine ⟨fun i hi => ?_, fun i j hi hj => ?_⟩
  · obtain ⟨told, t1, t2⟩ := partA_get k hi (Nat.le_refl _)
    obtain ⟨d1, d2⟩ := k.own _ _ _ _ t1 t2 (ho hi)
    have f := partA_fr k hi (Nat.le_refl _)
    have dl := partA_dvd k hi (Nat.le_refl _)
    have h0 : 0 < (partA w i i).2 := by have := f.lo; have := f.hi; omega
    exact ⟨div_share h0 d1 dl, div_share h0 d2 dl⟩
  · obtain ⟨told, t1, t2⟩ := partA_get k hi (Nat.le_of_lt hj)
    obtain ⟨d1, d2⟩ := k.cross _ _ _ _ _ _ t1 hj t2 (ho hi) (ho (by omega))
    have f := partA_fr k hi (Nat.le_of_lt hj)
    have dl := partA_dvd k hi (Nat.le_of_lt hj)
    have h0 : 0 < (partA w i j).2 := by have := f.lo; have := f.hi; omega
    exact ⟨div_share h0 d1 dl, div_share h0 d2 dl⟩
end
end K11

set_option Elab.async false
set_option linter.all false
set_option maxRecDepth 100000
set_option maxHeartbeats 1000000
/-! k11, part j: what is drawn. -/
namespace K11
open PySem PySem.Spec PyProof.Rows L2 DX

section
variable {t : Option Nat} {env : Ev} {st : Sto}
theorem q_parV {is : List Nat} {wa : WA} {Vs : List VP} {E : En} (h : EvA t wa env st Vs) (hl : Vs.length = is.length) (k : ∀ ds s, Le t st s → F2 s Vs ds → E.nx (setAll env is ds) s) : wPar is wa E env st := h st .refl _ fun ds s l f => ⟨by rw [← f.len]; exact hl, k ds s l f⟩
theorem loopF_inv {di : DI} {g : WG} {b : WS} {E : En} (hok : ∀ s, di.ok s) (Inv : List D → Ev → Sto → Prop) (hs : ∀ x r env1 s, Inv (x :: r) env1 s → ∀ Nx : Ev → Sto → Prop, (∀ env3 s3, Inv r env3 s3 → Nx env3 s3) → g x env1 s fun env2 s2 => b { nx := Nx, ct := Nx, bk := E.nx, rt := E.rt } env2 s2)
    (hd : ∀ env1 s, Inv [] env1 s → E.nx env1 s) : ∀ ys env1 s, Inv ys env1 s → loopF di g b E ys env1 s
  | [], env1, s, inv => ⟨hok s, hd env1 s inv⟩
  | x :: r, env1, s, inv => ⟨hok s, hs x r env1 s inv _ fun env3 s3 inv3 => loopF_inv hok Inv hs hd r env3 s3 inv3⟩
theorem e_tup1V {w : W} {V : VP} (h : Evl t w env st V) : Evl t (wTup (wCons w wNil)) env st (fun d s => ∃ x, d = .tup [x] ∧ V x s) := fun st0 l0 P p => h st0 l0 _ fun d st1 l1 v => ⟨by show 1 ≤ sizeLine; decide, p _ st1 l1 ⟨d, rfl, v⟩⟩
theorem e_tupV {w : W} {lo : Nat} {Vs : List VP} (m : ∀ V ∈ Vs, Mono t V) (h : Evl t w env st (LsV t lo Vs)) : Evl t (wCall (on1 rTupleOf) (wCons w wNil)) env st (fun d s => ∃ ys, d = .tup ys ∧ F2 s Vs ys) := e_call1 h (mono_lsv m) fun d s _ v P p => by
  obtain ⟨n, ys, rfl, h1, _, _, f⟩ := v
  exact ⟨ys, by unfold itemsD; dsimp only; rw [h1], p.done ⟨ys, rfl, f⟩⟩
theorem e_tupA {w : WA} {Vs : List VP} (h : EvA t w env st Vs) (hl : Vs.length ≤ 1000) : Evl t (wTup w) env st (fun d s => ∃ ys, d = .tup ys ∧ F2 s Vs ys) := fun st0 l0 P p => h st0 l0 _ fun ds st1 l1 f => ⟨Nat.le_trans (by rw [← f.len]; exact hl) (show 1000 ≤ sizeLine by decide), p _ st1 l1 ⟨ds, rfl, f⟩⟩
theorem mono_tupA {Vs : List VP} (m : ∀ V ∈ Vs, Mono t V) : Mono t (fun d s => ∃ ys, d = .tup ys ∧ F2 s Vs ys) := fun d s s' ⟨ys, e, f⟩ l => ⟨ys, e, f2_mono l m f⟩
theorem sm_mono {α : Type} {f : α → D → Prop} {xs : List α} : ∀ V ∈ xs.map fun x => DX.Sm (f x), Mono t V := fun V hV => by
  obtain ⟨x, _, rfl⟩ := List.mem_map.mp hV
  exact mono_sm
end
theorem prod_snoc (o : List Int) (x : Int) : (o ++ [x]).foldl (· * ·) 1 = o.foldl (· * ·) 1 * x := by rw [List.foldl_append]; rfl
section
variable {o : List Int} {w : List (List (Int × Int))}
theorem Kind.nil : Kind [] [] := ⟨by decide, rfl, by simp, by simp, by decide, by simp, by simp, by simp, by simp⟩
theorem Kind.snoc (k : Kind o w) {x : Int} {told : List (Int × Int)} (hn : o.length + 1 ≤ 10) (x2 : 2 ≤ x) (x3 : x ≤ 1024) (hs : o.foldl (· * ·) 1 * x ≤ 1024) (ht : told.length = o.length + 1) (fr : ∀ p ∈ told, Fr p)
    (own : ∀ p, told[o.length]? = some p → p.2 ∣ p.1 * (x * x) ∧ p.2 ∣ p.1 * (2 * x)) (cross : ∀ (j : Nat) p y, told[j]? = some p → o[j]? = some y → p.2 ∣ p.1 * x ∧ p.2 ∣ p.1 * y) : Kind (o ++ [x]) (w ++ [told]) := by
  have wi : ∀ {i : Nat} {t : List (Int × Int)}, (w ++ [told])[i]? = some t → (i < w.length ∧ w[i]? = some t) ∨ (i = w.length ∧ t = told) := fun {i t} h => by
    by_cases hi : i < w.length
    · rw [List.getElem?_append_left hi] at h; exact .inl ⟨hi, h⟩
    · rw [List.getElem?_append_right (by omega)] at h
      by_cases e : i - w.length = 0
      · rw [e] at h; simp at h; exact .inr ⟨by omega, h.symm⟩
      · rw [List.getElem?_eq_none (by simp; omega)] at h; cases h
  have oi : ∀ {i : Nat} {y : Int}, (o ++ [x])[i]? = some y → (i < o.length ∧ o[i]? = some y) ∨ (i = o.length ∧ y = x) := fun {i y} h => by
    by_cases hi : i < o.length
    · rw [List.getElem?_append_left hi] at h; exact .inl ⟨hi, h⟩
    · rw [List.getElem?_append_right (by omega)] at h
      by_cases e : i - o.length = 0
      · rw [e] at h; simp at h; exact .inr ⟨by omega, h.symm⟩
      · rw [List.getElem?_eq_none (by simp; omega)] at h; cases h
  have hl := k.len
  refine ⟨by simp; omega, by simp [k.len], ?_, ?_, by rw [prod_snoc]; exact hs, ?_, ?_, ?_, ?_⟩
  · intro y hy
    rcases List.mem_append.mp hy with h | h
    · exact k.two y h
    · simp at h; omega
  · intro y hy
    rcases List.mem_append.mp hy with h | h
    · exact k.hi y h
    · simp at h; omega
  · intro i t h
    rcases wi h with ⟨_, h⟩ | ⟨h1, rfl⟩
    · exact k.tri i t h
    · omega
  · intro t h p hp
    rcases List.mem_append.mp h with h | h
    · exact k.fr t h p hp
    · simp at h; subst h; exact fr p hp
  · intro i t p y h1 h2 h3
    rcases wi h1 with ⟨g1, h1⟩ | ⟨g1, rfl⟩
    · rcases oi h3 with ⟨_, h3⟩ | ⟨g3, _⟩
      · exact k.own i t p y h1 h2 h3
      · omega
    · rcases oi h3 with ⟨g3, _⟩ | ⟨_, rfl⟩
      · omega
      · exact own p (by rw [← hl, ← g1]; exact h2)
  · intro i j t p y z h1 hj h2 h3 h4
    rcases wi h1 with ⟨g1, h1⟩ | ⟨g1, rfl⟩
    · rcases oi h3 with ⟨_, h3⟩ | ⟨g3, _⟩
      · rcases oi h4 with ⟨_, h4⟩ | ⟨g4, _⟩
        · exact k.cross i j t p y z h1 hj h2 h3 h4
        · omega
      · omega
    · rcases oi h3 with ⟨g3, _⟩ | ⟨_, rfl⟩
      · omega
      · rcases oi h4 with ⟨_, h4⟩ | ⟨g4, _⟩
        · exact cross j p z h2 h4
        · omega
end
/-- a multiple of the lower number kills the part -/
theorem cf_kill {z W N : Int} (h : 0 < W) (d : W ∣ N) : cB z W ∣ cA z W * N := by
  obtain ⟨a0, a1, a2, a3⟩ := cAB (x := z) h
  obtain ⟨c, rfl⟩ := d
  exact ⟨z % W * c, by rw [← Int.mul_assoc, a3]; grind⟩
/-- one pair's part -/
def PairQ (x : Int) : D → D → Prop := fun d e => ∀ y, d = .int y → ∃ v, e = cf v (Int.gcd x y : Nat)
theorem pairs_of {x : Int} {s : Sto} : ∀ {o : List Int} {ys : List D}, F2 s ((inz o).map fun d => DX.Sm (PairQ x d)) ys → ∃ ps : List (Int × Int), ys = ps.map fD ∧ ps.length = o.length ∧ ∀ (j : Nat) p y, ps[j]? = some p → o[j]? = some y → ∃ v, p = (cA v (Int.gcd x y : Nat), cB v (Int.gcd x y : Nat))
  | [], _, h => by cases h; exact ⟨[], rfl, rfl, by simp⟩
  | y :: o, _, h => by
    cases h with
    | cons hv r =>
      obtain ⟨ps, e, hl, hp⟩ := pairs_of r
      obtain ⟨v, rfl⟩ := hv y rfl
      refine ⟨(cA v (Int.gcd x y : Nat), cB v (Int.gcd x y : Nat)) :: ps, by rw [e]; rfl, by simp [hl], fun j p z h1 h2 => ?_⟩
      cases j with
      | zero => simp at h1 h2; subst h1 h2; exact ⟨v, rfl⟩
      | succ j => exact hp j p z (by simpa using h1) (by simpa using h2)
/-- what a drawn kind is -/
structure Drawn (cap : Int) (most : Nat) (o : List Int) (w : List (List (Int × Int))) : Prop where
  k : Kind o w
  p1 : 1 ≤ o.foldl (· * ·) 1
  p2 : o.foldl (· * ·) 1 ≤ cap
  n : o.length ≤ most
  x : ∀ y ∈ o, y ≤ 16
def sp__law_drawn_kind : DSp := fun ds st P => ∃ (n most : Nat) (cap : Int), ds = [.ref n, .int cap, .int most] ∧ 1 ≤ cap ∧ cap ≤ 200 ∧ most ≤ 5 ∧ Tid st n ∧ EvP (some n) st (fun d _ => ∃ o w, d = kD o w ∧ Drawn cap most o w) P
theorem ok__law_drawn_kind (ds : List D) (st : Sto) (P : DP) (h : sp__law_drawn_kind ds st P) : w__law_drawn_kind sp__law_wave sp__law_one sp__law_round_one sp__law_common (En0 P) (startE 11 ds) st := by
  obtain ⟨n, most, cap, rfl, c1, c2, m5, td, h⟩ := h
  refine q_par (t := some n) (ds := [.tup [], .tup [], .int cap]) (a_is (e_tup (ds := []) a_nil (Nat.zero_le _)) (a_is (e_tup (ds := []) a_nil (Nat.zero_le _)) (a_is (e_var rfl) a_nil))) rfl fun s l => ?_
  have td1 := l.td n rfl td
  refine (e_wave (i := 0) rfl td1 (e_add (e_var (i := 2) (d := .int (most : Int)) rfl) e_c) (by omega) (by omega)).go fun d s1 l1 ⟨c, e, c0, cm⟩ => ?_
  subst e
  refine ⟨c, rfl, by omega, ?_⟩
  obtain ⟨m, rfl⟩ : ∃ m : Nat, c = m := ⟨c.toNat, by omega⟩
  refine loopF_inv (fun _ => trivial) (fun r env1 s => Le (some n) st s ∧ r.length ≤ most ∧ ∃ (o : List Int) (w : List (List (Int × Int))) (left : Int) (x6 x7 x8 x9 x10 : Option D), env1 = [some (.ref n), some (.int cap), some (.int most), some (tI o), some (wsD w), some (.int left), x6, x7, x8, x9, x10] ∧
    Kind o w ∧ 1 ≤ o.foldl (· * ·) 1 ∧ 0 ≤ left ∧ o.foldl (· * ·) 1 * left ≤ cap ∧ (0 < o.length → o.foldl (· * ·) 1 ≤ cap) ∧ o.length + r.length ≤ most ∧ ∀ y ∈ o, y ≤ 16) ?_ ?_ _ _ _ ⟨l.trans l1, ?_, [], [], cap, none, none, none, none, none, rfl, Kind.nil, by decide, by omega, by simp, by simp, ?_, by simp⟩
  · rintro x r env1 s2 ⟨l2, hr, o, w, left, x6, x7, x8, x9, x10, rfl, k, p1, lf0, pl, pc, hn, h16⟩ Nx hN
    have td2 := l2.td n rfl td
    refine g1 (q_asg (t := some n) (e_one (i := 0) rfl td2 (e_tup (ds := inz [2, 2, 2, 3, 4, 4, 5, 6, 8, 9, 12, 16]) (a_is e_c (a_is e_c (a_is e_c (a_is e_c (a_is e_c (a_is e_c (a_is e_c (a_is e_c (a_is e_c (a_is e_c (a_is e_c (a_is e_c a_nil)))))))))))) (by decide)) (by decide) (by decide)) fun d s3 l3 hm => ?_)
    obtain ⟨x, hx, rfl⟩ := List.mem_map.mp hm
    have x2 : 2 ≤ x ∧ x ≤ 16 := by
      simp only [List.mem_cons, List.not_mem_nil, or_false] at hx
      omega
    clear hm hx
    have l03 := l2.trans l3
    refine q_if (t := some n) (b := decide (x ≤ left)) (b_tb (e_le (e_var rfl) (e_var rfl))) (fun hb s4 l4 => ?_) fun hb s4 l4 => ?_
    · have hxl : x ≤ left := of_decide_eq_true hb
      -- whole
      obtain ⟨W, hW, hW0, hW1, hWx, hWx2⟩ : ∃ W : Int, W = (if x % 2 = 1 then x else 2 * x) ∧ 0 < W ∧ W ≤ 32 ∧ W ∣ x * x ∧ W ∣ 2 * x := by
        by_cases hx : x % 2 = 1
        · exact ⟨x, by rw [if_pos hx], by omega, by omega, ⟨x, rfl⟩, ⟨2, by omega⟩⟩
        · refine ⟨2 * x, by rw [if_neg hx], by omega, by omega, ⟨x / 2, ?_⟩, Int.dvd_refl _⟩
          have : x = 2 * (x / 2) := by omega
          have : 2 * x * (x / 2) = x * (2 * (x / 2)) := by grind
          rw [this]; congr 1
      refine q_asgI (t := some n) (a := .int W) (e_if (b := decide (x % 2 = 1)) (b_tb (e_eq (e_mod (e_int (e_var rfl)) e_c (by decide)) e_c)) (fun hb => by
        rw [hW, if_pos (of_decide_eq_true hb)]; exact e_var rfl) fun hb => by
        rw [hW, if_neg (of_decide_eq_false hb)]; exact e_mul e_c (e_var rfl) (Sml.cm (a := 2) (b := 5) (by unfold Sml; decide) (by unfold Sml; show _ < 32; omega))) fun s5 l5 => ?_
      have l05 := (l03.trans l4).trans l5
      have td5 := l05.td n rfl td
      have hlt : ∀ i, some n = some i → i < s5.length := fun i e => by cases e; obtain ⟨_, _, h, _⟩ := td5; exact lt_of_get h
      refine q_asg (t := some n) (e_lcS (PairQ x) hlt (i_tup (e_var rfl)) (by have := k.n10; simp; omega) fun y hy s l P p => ?_) fun d s6 l6 hd => ?_
      · obtain ⟨y, hy', rfl⟩ := List.mem_map.mp hy
        have y2 := k.two y hy'
        have y16 := h16 y hy'
        have gp : 0 < Int.gcd x y := Int.gcd_pos_of_ne_zero_left _ (by omega)
        have gl : (Int.gcd x y : Int) ≤ x := Int.le_of_dvd (by omega) (Int.gcd_dvd_left ..)
        refine g1 (p _ (e_def (Vs := [DX.Sm (IntIn 0 7), Is (.int (Int.gcd x y : Nat))]) (a_cons (e_wave (i := 0) rfl (l.td n rfl td5) e_c (by decide) (by decide)) (a_is (e_def2 (a := .int x) (b := .int y) (e_var rfl) (e_var rfl) fun s l P p => ⟨x, y, rfl, by unfold Sml; exact Nat.lt_of_lt_of_le (show x.natAbs < 2 ^ 5 by show _ < 32; omega) (Nat.pow_le_pow_right (by decide) (by decide)), by unfold Sml; exact Nat.lt_of_lt_of_le (show y.natAbs < 2 ^ 5 by show _ < 32; omega) (Nat.pow_le_pow_right (by decide) (by decide)), fun s' l' => p _ s' l'.up rfl⟩) a_nil) mono_sm) rfl fun ds s l f P p => ?_))
        cases f with
        | cons hv f =>
          cases f with
          | cons h2 f =>
            cases f; cases h2
            obtain ⟨v, rfl, _⟩ := hv
            refine ⟨v, _, rfl, by omega, (show Sml 5 ((Int.gcd x y : Nat) : Int) by unfold Sml; show _ < 32; omega).mono (by decide), fun s' l' => p _ s' l'.up fun z hz => ?_⟩
            cases hz; exact ⟨v, rfl⟩
      · have l06 := l05.trans l6
        have td6 := l06.td n rfl td
        obtain ⟨m9, ys9, e9, h9, n9, _, f9⟩ := hd
        subst e9
        have hp9 : LsV (some n) 0 ((inz o).map fun d => DX.Sm (PairQ x d)) (.ref m9) s6 := ⟨m9, ys9, rfl, h9, n9, Nat.zero_le _, f9⟩
        have eT : Evl (some n) (wCall (on1 rTupleOf) (wCons (wVar 9) wNil)) [some (.ref n), some (.int cap), some (.int most), some (tI o), some (wsD w), some (.int left), some (D.int x), some (.int x), some (.int W), some (.ref m9), x10] s6 (fun d s => ∃ ys, d = .tup ys ∧ F2 s ((inz o).map fun d => DX.Sm (PairQ x d)) ys) := e_tupV sm_mono (e_varV rfl (mono_lsv sm_mono) hp9)
        have eO : Evl (some n) (wDef 2 sp__law_one (wCons (wVar 0) (wCons (wTup (wCons (wC (.int 0)) (wCons (wC (.int 1)) (wCons (wC (.int 1)) (wCons (wC (.int 2)) (wCons (wDef 2 sp__law_wave (wCons (wVar 0) (wCons (wVar 8) wNil))) wNil)))))) wNil))) [some (.ref n), some (.int cap), some (.int most), some (tI o), some (wsD w), some (.int left), some (D.int x), some (.int x), some (.int W), some (.ref m9), x10] s6 (DX.Sm fun d => ∃ v, d = .int v) := by
          refine e_def (Vs := [Is (.ref n), fun d s => ∃ ys, d = .tup ys ∧ F2 s [Is (.int 0), Is (.int 1), Is (.int 1), Is (.int 2), DX.Sm (IntIn 0 W)] ys]) (a_is (e_var rfl) (a_cons (e_tupA (a_is e_c (a_is e_c (a_is e_c (a_is e_c (a_cons (e_wave (i := 0) rfl td6 (e_var rfl) hW0 (by omega)) a_nil mono_sm))))) (Nat.le_of_ble_eq_true rfl)) a_nil (mono_tupA fun V hV => ?_))) rfl fun ds s l f P p => ?_
          · simp only [List.mem_cons, List.not_mem_nil, or_false] at hV
            rcases hV with rfl | rfl | rfl | rfl | rfl <;> first | exact mono_is | exact mono_sm
          · cases f with
            | cons h1 f =>
              cases f with
              | cons h2 f =>
                cases f; cases h1
                obtain ⟨ys, rfl, f⟩ := h2
                cases f with
                | cons a1 f => cases f with
                  | cons a2 f => cases f with
                    | cons a3 f => cases f with
                      | cons a4 f => cases f with
                        | cons a5 f =>
                          cases f; cases a1; cases a2; cases a3; cases a4
                          obtain ⟨v, rfl, _⟩ := a5
                          refine ⟨n, [.int 0, .int 1, .int 1, .int 2, .int v], rfl, by simp, by simp, l.td n rfl td6, fun d s' l' hd => p d s' l' ?_⟩
                          have hd : d ∈ [D.int 0, .int 1, .int 1, .int 2, .int v] := hd
                          simp only [List.mem_cons, List.not_mem_nil, or_false] at hd
                          rcases hd with rfl | rfl | rfl | rfl | rfl <;> exact ⟨_, rfl⟩
        have eR : Evl (some n) (wDef 2 sp__law_round_one (wCons (wDef 2 sp__law_one (wCons (wVar 0) (wCons (wTup (wCons (wC (.int 0)) (wCons (wC (.int 1)) (wCons (wC (.int 1)) (wCons (wC (.int 2)) (wCons (wDef 2 sp__law_wave (wCons (wVar 0) (wCons (wVar 8) wNil))) wNil)))))) wNil))) (wCons (wVar 8) wNil))) [some (.ref n), some (.int cap), some (.int most), some (tI o), some (wsD w), some (.int left), some (D.int x), some (.int x), some (.int W), some (.ref m9), x10] s6 (DX.Sm fun d => ∃ z, d = cf z W) :=
          e_def (Vs := [DX.Sm fun d => ∃ v, d = .int v, Is (.int W)]) (a_cons eO (a_is (e_var rfl) a_nil) mono_sm) rfl fun ds s l f P p => by
            cases f with
            | cons h1 f =>
              cases f with
              | cons h2 f =>
                cases f; cases h2
                obtain ⟨v, rfl⟩ := h1
                exact ⟨v, W, rfl, hW0, (show Sml 6 W by unfold Sml; show _ < 64; omega).mono (by decide), fun s' l' => p _ s' l'.up ⟨v, rfl⟩⟩
        have eW := e_binV (r := rAdd) (V := DX.Sm fun d => ∃ told, d = toldD told ∧ ∃ ps z, told = ps ++ [(cA z W, cB z W)] ∧ ps.length = o.length ∧ ∀ (j : Nat) p y, ps[j]? = some p → o[j]? = some y → ∃ v, p = (cA v (Int.gcd x y : Nat), cB v (Int.gcd x y : Nat))) eT (e_tup1V eR) (mono_tupA sm_mono) fun d e s l ⟨ys, e1, f⟩ ⟨y, e2, z, e3⟩ P p => by
            subst e1 e2 e3
            obtain ⟨ps, e4, hl, hp⟩ := pairs_of f
            subst e4
            refine ⟨?_, p.done ⟨ps ++ [(cA z W, cB z W)], by simp [toldD]; rfl, ps, z, rfl, hl, hp⟩⟩
            have := k.n10
            simp only [List.length_map, List.length_cons, List.length_nil]
            rw [sizeLine_eq]; omega
        dsimp only
        refine q_parV (t := some n) (is := [3, 4, 5]) (Vs := [Is (tI (o ++ [x])), DX.Sm fun d => ∃ told, d = wsD (w ++ [told]) ∧ ∃ ps z, told = ps ++ [(cA z W, cB z W)] ∧ ps.length = o.length ∧ ∀ (j : Nat) p y, ps[j]? = some p → o[j]? = some y → ∃ v, p = (cA v (Int.gcd x y : Nat), cB v (Int.gcd x y : Nat)), Is (.int (left / x))]) (a_is ?_ (a_cons ?_ (a_is (e_div (e_var rfl) (e_var rfl) (by omega) ((show Sml 6 x by unfold Sml; show _ < 64; omega).lt (by decide))) a_nil) mono_sm)) rfl fun ds s7 l7 f => ?_
        · have := e_addT (t := some n) (wa := wVar 3) (wb := wTup (wCons (wVar 7) wNil)) (env := [some (.ref n), some (.int cap), some (.int most), some (tI o), some (wsD w), some (.int left), some (D.int x), some (.int x), some (.int W), some (.ref m9), x10]) (st := s6) (xs := inz o) (ys := [.int x]) (e_var rfl) (e_tup (ds := [.int x]) (a_is (e_var rfl) a_nil) (Nat.le_of_ble_eq_true rfl)) (by have := k.n10; simp; omega)
          have e : (D.tup (inz o ++ [.int x])) = tI (o ++ [x]) := by simp [inz]
          rw [e] at this; exact this
        · refine e_binV (Va := Is (wsD w)) (e_var rfl) (e_tup1V eW) mono_is fun d e s l v1 ⟨y, e2, told, e3, ht⟩ P p => ?_
          cases v1
          subst e2 e3
          refine ⟨?_, p.done ⟨told, by simp [wsD], ht⟩⟩
          have := k.wl
          simp only [List.length_map, List.length_cons, List.length_nil]
          rw [sizeLine_eq]; omega
        · cases f with
          | cons h1 f => cases f with
            | cons h2 f => cases f with
              | cons h3 f =>
                cases f; cases h1; cases h3
                obtain ⟨told, rfl, ps, z, rfl, hpl, hps⟩ := h2
                have hno : o.length + 1 ≤ most := by simp at hn; omega
                have hps2 : o.foldl (· * ·) 1 * x ≤ cap := by
                  have h1 : o.foldl (· * ·) 1 * x ≤ o.foldl (· * ·) 1 * left := Int.mul_le_mul_of_nonneg_left hxl (by omega)
                  omega
                have hkk : Kind (o ++ [x]) (w ++ [ps ++ [(cA z W, cB z W)]]) := by
                  refine k.snoc (by omega) x2.1 (by omega) (by omega) (by simp [hpl]) (fun p hp => ?_) (fun p hp => ?_) fun j p y h1 h2 => ?_
                  · rcases List.mem_append.mp hp with hp | hp
                    · obtain ⟨j, hj⟩ := List.getElem?_of_mem hp
                      have hjl := (List.getElem?_eq_some_iff.mp hj).1
                      obtain ⟨y, hy⟩ : ∃ y, o[j]? = some y := ⟨_, List.getElem?_eq_getElem (by omega)⟩
                      obtain ⟨v, rfl⟩ := hps j p y hj hy
                      have gp : 0 < Int.gcd x y := Int.gcd_pos_of_ne_zero_left _ (by omega)
                      have gl : (Int.gcd x y : Int) ≤ x := Int.le_of_dvd (by omega) (Int.gcd_dvd_left ..)
                      exact cf_fr (by omega) (by omega)
                    · simp at hp; subst hp; exact cf_fr hW0 (by omega)
                  · rw [List.getElem?_append_right (by omega), hpl] at hp
                    simp at hp
                    subst hp
                    exact ⟨cf_kill hW0 hWx, cf_kill hW0 hWx2⟩
                  · have hj := (List.getElem?_eq_some_iff.mp h2).1
                    rw [List.getElem?_append_left (by omega)] at h1
                    obtain ⟨v, rfl⟩ := hps j p y h1 h2
                    have gp : 0 < Int.gcd x y := Int.gcd_pos_of_ne_zero_left _ (by omega)
                    exact ⟨cf_kill (by omega) (Int.gcd_dvd_left ..), cf_kill (by omega) (Int.gcd_dvd_right ..)⟩
                refine hN _ _ ⟨l06.trans l7, by simp at hr ⊢; omega, o ++ [x], _, left / x, _, _, _, _, _, rfl, hkk, ?_, Int.ediv_nonneg lf0 (by omega), ?_, fun _ => ?_, by simp at hn ⊢; omega, fun y hy => ?_⟩
                · rw [prod_snoc]
                  have : (1 : Int) * 1 ≤ o.foldl (· * ·) 1 * x := Int.mul_le_mul p1 (by omega) (by decide) (by omega)
                  omega
                · rw [prod_snoc, Int.mul_assoc]
                  have h1 : x * (left / x) ≤ left := Int.mul_ediv_self_le (by omega)
                  have h2 : o.foldl (· * ·) 1 * (x * (left / x)) ≤ o.foldl (· * ·) 1 * left := Int.mul_le_mul_of_nonneg_left h1 (by omega)
                  omega
                · rw [prod_snoc]; exact hps2
                · rcases List.mem_append.mp hy with h | h
                  · exact h16 y h
                  · simp at h; omega
    · exact hN _ _ ⟨l03.trans l4, by simp at hr ⊢; omega, o, w, left, _, _, x8, x9, x10, rfl, k, p1, lf0, pl, pc, by simp at hn; omega, h16⟩
  · rintro env1 s2 ⟨l2, hr, o, w, left, x6, x7, x8, x9, x10, rfl, k, p1, lf0, pl, pc, hn, h16⟩
    refine q_retI (t := some n) (E := En0 P) (a := kD o w) (e_tup (ds := [_, _]) (a_is (e_var rfl) (a_is (e_var rfl) a_nil)) (Nat.le_of_ble_eq_true rfl)) fun s3 l3 => h _ _ (l2.trans l3) ⟨o, w, rfl, k, p1, ?_, by simpa using hn, h16⟩
    by_cases ho : 0 < o.length
    · exact pc ho
    · have : o = [] := List.eq_nil_of_length_eq_zero (by omega)
      subst this; simpa using c1
  · simp [rangeItems]; omega
  · simp [rangeItems]; omega
end K11

set_option Elab.async false
set_option linter.all false
set_option maxRecDepth 100000
set_option maxHeartbeats 1000000
/-! k11, part k: drawn rows, all rows, the tide. -/
namespace K11
open PySem PySem.Spec PyProof.Rows L2 DX

section
variable {t : Option Nat} {env : Ev} {st : Sto}
theorem e_zipBind {own : List Nat} {g : WG} {wt : WT} {we w u : W} {V V2 : VP} (h : Evl t w env st V) (k : ∀ d s, Le t st s → V d s → Evl t (wLc own (wZip (wCons (wC d) (wCons u wNil))) g wt we) env s V2) : Evl t (wLc own (wZip (wCons w (wCons u wNil))) g wt we) env st V2 := fun st0 l0 P p =>
  h st0 l0 _ fun d st1 l1 v => k d st1 (l0.trans l1) v st1 .refl P (p.le l1)
theorem a_app {w : WA} {xs ys : List D} (h : EvA t w env st (xs.map Is ++ ys.map Is)) : EvA t w env st ((xs ++ ys).map Is) := by rw [List.map_append]; exact h
theorem e_addV {w u : W} {V1 V2 V : VP} (h : Evl t w env st V1) (hu : Evl t u env st V2) (m : Mono t V1) (k : ∀ d e s, V1 d s → V2 e s → ∃ i j, d = .int i ∧ e = .int j ∧ V (.int (i + j)) s) : Evl t (wBin rAdd w u) env st V :=
  e_binV h hu m fun d e s _ v1 v2 P p => by
    obtain ⟨i, j, rfl, rfl, v⟩ := k d e s v1 v2
    exact p.done v
end
/-! drawn rows -/
def RowV (n b : Nat) : VP := fun d _ => ∃ ns : List Int, d = tI ns ∧ ns.length = n ∧ ∀ x ∈ ns, Sml b x
theorem mono_rowV {t : Option Nat} {n b : Nat} : Mono t (RowV n b) := fun _ _ _ h _ => h
theorem row_of {s : Sto} {b : Nat} : ∀ {n : Nat} {ys : List D} {Vs : List VP}, Vs.length = n → (∀ V ∈ Vs, ∀ d, V d s → ∃ v, d = .int v ∧ Sml b v) → F2 s Vs ys → ∃ ns : List Int, ys = inz ns ∧ ns.length = n ∧ ∀ x ∈ ns, Sml b x
  | _, _, [], e, _, h => by cases h; subst e; exact ⟨[], rfl, rfl, by simp⟩
  | _, _, V :: Vs, e, hv, h => by
    cases h with
    | cons v r =>
      obtain ⟨i, rfl, hi⟩ := hv V List.mem_cons_self _ v
      obtain ⟨ns, e2, hl, hs⟩ := row_of (n := Vs.length) rfl (fun V hV => hv V (List.mem_cons_of_mem _ hV)) r
      refine ⟨i :: ns, by rw [e2]; rfl, by rw [List.length_cons, hl, ← e, List.length_cons], fun x hx => ?_⟩
      rcases List.mem_cons.mp hx with h | h
      · rw [h]; exact hi
      · exact hs x h
def sp__law_drawn_row : DSp := fun ds st P => ∃ (n : Nat) (o : List Int) (w : List (List (Int × Int))), ds = [.ref n, kD o w] ∧ o.length ≤ 10 ∧ (∀ x ∈ o, 2 ≤ x ∧ x ≤ 16) ∧ Tid st n ∧ EvP (some n) st (RowV o.length 10) P
theorem ok__law_drawn_row (ds : List D) (st : Sto) (P : DP) (h : sp__law_drawn_row ds st P) : w__law_drawn_row sp__law_wave sp__law_one (En0 P) (startE 3 ds) st := by
  obtain ⟨n, o, w, rfl, hl, hx, td, h⟩ := h
  have hlt : ∀ i, some n = some i → i < st.length := fun i e => by cases e; obtain ⟨_, _, h, _⟩ := td; exact lt_of_get h
  refine q_ret (t := some n) (V := RowV o.length 10) ((e_tupV sm_mono (e_lcS (fun _ e => ∃ v, e = .int v ∧ Sml 10 v) hlt (i_tup (xs := inz o) (e_idx (n := 0) (xs := [tI o, wsD w]) (e_var rfl) e_c rfl)) (by simp; omega) fun x hx' s l P p => ?_)).weak fun d s l ⟨ys, e, f⟩ => ?_) h
  · obtain ⟨y, hy, rfl⟩ := List.mem_map.mp hx'
    obtain ⟨y2, y16⟩ := hx y hy
    have td' := l.td n rfl td
    refine g1 (p _ (e_addV (V1 := DX.Sm (IntIn 0 y)) (V2 := DX.Sm (· ∈ inz [0, 0, 0 - y, 7 * y])) (e_wave (i := 0) rfl td' (e_var rfl) (by omega) (by omega)) (e_one (i := 0) rfl td' (e_tup (ds := inz [0, 0, 0 - y, 7 * y]) (a_is e_c (a_is e_c (a_is (e_sub e_c (e_var rfl)) (a_is (e_mul e_c (e_var rfl) (Sml.cm (a := 3) (b := 5) (by unfold Sml; decide) (by unfold Sml; show _ < 32; omega))) a_nil)))) (Nat.le_of_ble_eq_true rfl)) (by simp) (by simp)) mono_sm fun d e s v1 v2 => ?_))
    obtain ⟨v, rfl, v0, v1⟩ := v1
    obtain ⟨u, hu, rfl⟩ := List.mem_map.mp v2
    refine ⟨v, u, rfl, rfl, _, rfl, ?_⟩
    simp only [List.mem_cons, List.not_mem_nil, or_false] at hu
    unfold Sml; show _ < 1024
    omega
  · obtain ⟨ns, e2, hl2, hs⟩ := row_of (b := 10) (n := o.length) (by simp) (fun V hV d v => by obtain ⟨x, _, rfl⟩ := List.mem_map.mp hV; exact v) f
    exact ⟨ns, by rw [e, e2], hl2, hs⟩
/-! all rows -/
def stepR (acc : List (List Int)) (x : Int) : List (List Int) := acc.flatMap fun r => (List.range x.toNat).map fun (i : Nat) => r ++ [(i : Int)]
def rowsL (o : List Int) : List (List Int) := o.foldl stepR [[]]
theorem rowsL_len : ∀ (q : List Int) (acc : List (List Int)) (c : Nat), (∀ r ∈ acc, r.length = c) → ∀ r ∈ q.foldl stepR acc, r.length = c + q.length
  | [], _, _, h, r, hr => h r hr
  | x :: q, acc, c, h, r, hr => by
    have := rowsL_len q (stepR acc x) (c + 1) (fun r hr => by
      obtain ⟨a, ha, hr⟩ := List.mem_flatMap.mp hr
      obtain ⟨i, _, rfl⟩ := List.mem_map.mp hr
      rw [List.length_append, h a ha]; rfl) r hr
    simp only [List.length_cons]; omega
def snocD : D → D → D
  | .tup xs, d => .tup (xs ++ [d])
  | d, _ => d
theorem e_rowsnoc {env : Ev} {st : Sto} {row : List Int} {i : Int} (h3 : env[3]? = some (some (tI row))) (h4 : env[4]? = some (some (.int i))) (hl : row.length ≤ 900) : Evl none (wTup (wStar (wVar 3) (wCons (wVar 4) wNil))) env st (Is (.tup (inz row ++ [.int i]))) :=
  e_tup (ds := inz row ++ [.int i]) (a_app (xs := inz row) (ys := [.int i]) (a_star (e_var h3) (a_is (e_var h4) a_nil))) (by simp; omega)
def sp_all_rows_by : DSp := fun ds st P => ∃ (o : List Int) (w : List (List (Int × Int))), ds = [kD o w] ∧ (∀ x ∈ o, 0 ≤ x ∧ x ≤ 1024) ∧ (∀ k, k ≤ o.length → (rowsL (o.take k)).length ≤ 1000) ∧ o.length ≤ 100 ∧ EvP none st (Ls none 0 ((rowsL o).map tI)) P
theorem ok_all_rows_by (ds : List D) (st : Sto) (P : DP) (h : sp_all_rows_by ds st P) : w_all_rows_by (En0 P) (startE 5 ds) st := by
  obtain ⟨o, w, rfl, hx, hk, hl, h⟩ := h
  refine p_asg (V := Ls none st.length [.tup []]) (e_lst (ds := [.tup []]) nofun (a_is (e_tup (ds := []) a_nil (Nat.zero_le _)) a_nil) (Nat.le_of_ble_eq_true rfl)) fun d s l hd => ?_
  refine p_for (i_tup (xs := inz o) (e_idx (n := 0) (xs := [tI o, wsD w]) (e_var rfl) e_c rfl)) (fun r env1 s1 => ∃ (q m : List Int) (f : D) (x2 x3 x4 : Option D), o = q ++ m ∧ r = inz m ∧ env1 = [some (kD o w), some f, x2, x3, x4] ∧ Ls none 0 ((rowsL q).map tI) f s1) (fun s1 l1 => ⟨[], o, d, none, none, none, rfl, rfl, rfl, by
    obtain ⟨n, e, h1, h2, _⟩ := mono_ls _ _ _ hd l1
    exact ⟨n, e, h1, h2, Nat.zero_le _⟩⟩) ?_ ?_
  · rintro x r env1 s1 l1 ⟨q, m, f, x2, x3, x4, e, er, ee, hf⟩ Nx hN
    cases m with
    | nil => cases er
    | cons a m =>
      injection er with e1 e2
      subst e1 e2 ee
      obtain ⟨a0, a1⟩ := hx a (by rw [e]; simp)
      have hq : (rowsL (q ++ [a])).length ≤ 1000 := by
        have := hk (q.length + 1) (by rw [e]; simp)
        rw [e, show (q ++ a :: m).take (q.length + 1) = q ++ [a] by rw [List.take_append, List.take_of_length_le (by omega)]; simp] at this
        exact this
      have er : (((rowsL q).map tI).flatMap fun x => ((fun _ => (List.range a.toNat).map fun (i : Nat) => D.int (i : Int)) x).map (snocD x)) = (rowsL (q ++ [a])).map tI := by
        unfold rowsL
        rw [List.foldl_append]
        show _ = (stepR (q.foldl stepR [[]]) a).map tI
        unfold stepR
        simp only [List.flatMap_map, List.map_flatMap, List.map_map]
        refine congrArg (fun z => List.flatMap z (q.foldl stepR [[]])) (funext fun r => List.map_congr_left fun i _ => ?_)
        show D.tup (inz r ++ [D.int (i : Int)]) = tI (r ++ [(i : Int)])
        simp [inz]
      refine g1 (p_asg (V := Ls none 0 ((rowsL (q ++ [a])).map tI)) ?_ fun d s2 l2 hd => hN _ _ l2 ⟨q ++ [a], m, d, some (.int a), x3, x4, by rw [e]; simp, rfl, rfl, hd⟩)
      have ev := e_lc2 (t := none) (st := s1) (own := [3, 4]) (vs1 := [4]) (wi := wIter (wVar 1)) (g := gNm 3) (wi1 := wRange1 (wCons (wVar 2) wNil)) (g1 := gNm 4) (we := wTup (wStar (wVar 3) (wCons (wVar 4) wNil))) (env := [some (kD o w), some f, some (.int a), x3, x4]) (xs := (rowsL q).map tI)
        (fun _ => (List.range a.toNat).map fun (i : Nat) => D.int (i : Int)) snocD nofun (i_ls (lo := 0) (e_varV rfl mono_ls hf)) (by rw [er]; simp; omega) fun x hx s l P p => by
          obtain ⟨row, hr, rfl⟩ := List.mem_map.mp hx
          refine g1 (p _ (c_rng1 (n := a.toNat) (by rw [show ((a.toNat : Nat) : Int) = a by omega]; exact e_var rfl) (by omega)) fun y hy s1 P1 p1 => ?_)
          obtain ⟨i, hi, rfl⟩ := List.mem_map.mp hy
          have : row.length ≤ 900 := by
            have h1 := rowsL_len q [[]] 0 (by simp) row hr
            have : q.length ≤ 100 := by rw [e] at hl; simp at hl; omega
            omega
          refine g1 (p1 _ ?_)
          exact e_rowsnoc rfl rfl this
      rw [er] at ev
      exact ev.weak fun d s _ ⟨n, e, h1, h2, _⟩ => ⟨n, e, h1, h2, Nat.zero_le _⟩
  · rintro env1 s1 l1 ⟨q, m, f, x2, x3, x4, e, er, ee, hf⟩
    cases m with
    | cons a m => cases er
    | nil =>
      subst ee
      rw [List.append_nil] at e
      subst e
      exact p_ret (E := En0 P) (e_varV rfl mono_ls hf) (h.le (l.trans l1))
def sp_all_rows : DSp := fun ds st P => ∃ (o : List Int) (w : List (List (Int × Int))), ds = [kD o w] ∧ Kind o w ∧ (∀ k, k ≤ o.length → (rowsL (o.take k)).length ≤ 1000) ∧ Ret st (.tup ((rowsL o).map tI)) P
theorem ok_all_rows (ds : List D) (st : Sto) (P : DP) (h : sp_all_rows ds st P) : w_all_rows sp_check_kind sp_all_rows_by (En0 P) (startE 1 ds) st := by
  obtain ⟨o, w, rfl, k, hk, h⟩ := h
  exact p_drop (V := Is .non) (e_def1 (e_var rfl) fun s _ P p => ⟨o, w, rfl, k, Ret.evp p⟩) fun s l => p_retI (e_tupL (lo := 0) (e_def1 (e_var rfl) fun s _ P p => ⟨o, w, rfl, fun x hx => ⟨by have := k.two x hx; omega, k.hi x hx⟩, hk, by have := k.n10; omega, p⟩)) fun s2 l2 => h s2 (l.trans l2)
/-! the tide -/
theorem cut_to {α : Type} {xs : List α} {n : Nat} : DX.cutD xs none (some (n : Int)) = xs.take n := by
  unfold DX.cutD HT.sIx
  simp only [show ¬ ((n : Int) < 0) by omega, if_false, Int.toNat_natCast, List.drop_zero, Nat.sub_zero]
  by_cases hl : n ≤ xs.length
  · rw [Nat.min_eq_left hl]
  · rw [Nat.min_eq_right (by omega), List.take_of_length_le (Nat.le_refl _), List.take_of_length_le (by omega)]
theorem e_toR {env : Ev} {st : Sto} {w u : W} {ns : List Int} {n : Nat} (h : Evl none w env st (Is (.rol (inz ns)))) (hu : Evl none u env st (Is (.int n))) : Evl none (wSlc w wNo (wSome u)) env st (Ls none 0 (inz (ns.take n))) := fun st0 l0 P p =>
  h st0 l0 _ fun d st1 l1 v => hu st1 (l0.trans l1) _ fun e st2 l2 v2 => by
    cases v; cases v2
    refine ⟨n, rfl, inz ns, rfl, ?_⟩
    rw [cut_to]
    exact p _ _ ((l1.trans l2).trans .push) ⟨_, rfl, by simp [inz, List.map_take], nofun, Nat.zero_le _⟩
theorem e_pow {t : Option Nat} {env : Ev} {st : Sto} {w u : W} {i : Int} {n : Nat} (h : Evl t w env st (Is (.int i))) (hu : Evl t u env st (Is (.int n))) (hn : n ≤ 1000000) (hi : i.natAbs < 2 ^ 64) : Evl t (wBin rPow w u) env st (Is (.int (i ^ n))) := e_bin h hu fun s P p => ⟨⟨by omega, by omega, hi⟩, by simp only [Int.toNat_natCast]; exact p⟩
theorem Sml.moved {x : Int} (h0 : 0 ≤ x) (h1 : x < 9223372036854775783) : Sml 64 x := by unfold Sml; show _ < 18446744073709551616; omega
def sp__law_tide : DSp := fun ds st P => ∃ (ns : List Int) (lap : Nat), ds = [.rol (inz ns), .int lap] ∧ ns.length ≤ 1000000 ∧ lap < 1000 ∧ EvP none st (fun d s => ∃ n, d = .ref n ∧ Tid s n ∧ st.length ≤ n) P
theorem ok__law_tide (ds : List D) (st : Sto) (P : DP) (h : sp__law_tide ds st P) : w__law_tide (En0 P) (startE 6 ds) st := by
  obtain ⟨ns, lap, rfl, hl, hlap, h⟩ := h
  have len : ∀ {s : Sto} {env : Ev}, env[0]? = some (some (.rol (inz ns))) → Evl none (wCall (on1 rLen) (wCons (wVar 0) wNil)) env s (Is (.int ns.length)) := fun he => e_call1i (e_var he) fun s P p => ⟨inz ns, rfl, by simpa using p⟩
  have own : ∃ own : Int, Evl none (wIf (wTb (wBin rLt (wVar 1) (wCall (on1 rLen) (wCons (wVar 0) wNil)))) (wCall (on1 rInt) (wCons (wBin rIdx (wVar 0) (wVar 1)) wNil)) (wBin rAdd (wC (.int 848)) (wBin rMul (wC (.int 29)) (wVar 1)))) (startE 6 [.rol (inz ns), .int lap]) st (Is (.int own)) := by
    by_cases hlt : lap < ns.length
    · obtain ⟨x, hx⟩ : ∃ x, ns[lap]? = some x := ⟨_, List.getElem?_eq_getElem hlt⟩
      refine ⟨x, e_if (b := true) (by rw [show true = decide ((lap : Int) < (ns.length : Int)) from (decide_eq_true (by omega)).symm]; exact b_tb (e_lt (e_var rfl) (len rfl))) (fun _ => e_int (e_bin (a := .rol (inz ns)) (b := .int lap) (e_var rfl) (e_var rfl) fun s P p => ⟨inz ns, .int x, rfl, ?_, p⟩)) nofun⟩
      unfold atI ixN
      rw [if_pos (by omega), if_pos (by simp; omega)]
      simp [hx]
    · exact ⟨_, e_if (b := false) (by rw [show false = decide ((lap : Int) < (ns.length : Int)) from (decide_eq_false (by omega)).symm]; exact b_tb (e_lt (e_var rfl) (len rfl))) nofun (fun _ => e_add e_c (e_mul e_c (e_var rfl) (Sml.cm (a := 5) (b := 10) (by unfold Sml; decide) (by unfold Sml; show _ < 1024; omega))))⟩
  obtain ⟨own, ho⟩ := own
  refine p_asgI ho fun s l => p_asgI (e_add e_c (e_mul e_c (e_var rfl) (Sml.cm (a := 5) (b := 10) (by unfold Sml; decide) (by unfold Sml; show _ < 1024; omega)))) fun s1 l1 => ?_
  dsimp only
  refine p_for (xs := enumD 0 (inz (ns.take 32))) (i_enum (Evl.sqL (e_toR (n := 32) (e_var rfl) e_c))) (fun r env1 s => ∃ (q m : List Int) (mv : Int) (x4 x5 : Option D), r = enumD q.length (inz m) ∧ q.length + m.length ≤ 32 ∧ env1 = [some (.rol (inz ns)), some (.int lap), some (.int own), some (.int mv), x4, x5] ∧ 0 ≤ mv ∧ mv < 9223372036854775783) (fun _ _ => ⟨[], ns.take 32, 80802 + 13 * (lap : Int), none, none, rfl, by simp; omega, rfl, by omega, by omega⟩) ?_ ?_
  · rintro x r env1 s2 l2 ⟨q, m, mv, x4, x5, er, hq, ee, m0, m1⟩ Nx hN
    obtain ⟨d, as, em, ex, er2⟩ := enumD_cons er
    obtain ⟨y, m', rfl, rfl, rfl⟩ := map_cons em
    subst ee ex
    have y0 := Int.emod_nonneg y (show (1000000021 : Int) ≠ 0 by decide)
    have y1 := Int.emod_lt_of_pos y (show (0 : Int) < 1000000021 by decide)
    simp only [List.length_cons] at hq
    refine g2 (p_asgI (e_mod (e_int (e_add (e_add (e_mul (e_var rfl) e_c ((Sml.moved m0 m1).cm (b := 64) (by unfold Sml; decide))) (e_mul (e_mod (e_int (e_var rfl)) e_c (by decide)) (e_add (e_mul e_c (e_var rfl) (Sml.cm (a := 2) (b := 6) (by unfold Sml; decide) (by unfold Sml; show _ < 64; omega))) e_c) (Sml.cm (a := 31) (b := 8) (by unfold Sml; show _ < 2147483648; omega) (by unfold Sml; show _ < 256; omega)))) e_c)) e_c (by decide)) fun s3 l3 => hN _ _ l3 ⟨q ++ [y], m', _, some (.int q.length), some (.int y), by rw [er2]; simp, by simp; omega, rfl, Int.emod_nonneg _ (by decide), Int.emod_lt_of_pos _ (by decide)⟩)
  · rintro env1 s2 l2 ⟨q, m, mv, x4, x5, er, hq, ee, m0, m1⟩
    subst ee
    have z0 := Int.emod_nonneg own (show (1000000021 : Int) ≠ 0 by decide)
    have z1 := Int.emod_lt_of_pos own (show (0 : Int) < 1000000021 by decide)
    dsimp only
    refine p_asgI (e_mod (e_int (e_add (e_add (e_mul (e_var rfl) e_c ((Sml.moved m0 m1).cm (b := 64) (by unfold Sml; decide))) (e_mod (e_var rfl) e_c (by decide))) e_c)) e_c (by decide)) fun s3 l3 => ?_
    have c0 := Int.emod_nonneg (mv * 2862933555777941757 + own % 1000000021 + 3) (show (9223372036854775783 : Int) ≠ 0 by decide)
    have c1 := Int.emod_lt_of_pos (mv * 2862933555777941757 + own % 1000000021 + 3) (show (0 : Int) < 9223372036854775783 by decide)
    generalize (mv * 2862933555777941757 + own % 1000000021 + 3) % 9223372036854775783 = c at c0 c1
    obtain ⟨b, hb, b0, b1⟩ : ∃ b : Int, Evl none (wIf (wOrT (wTb (wBin rLt (wVar 2) (wC (.int 0)))) (wTb (wBin rGe (wVar 2) (wBin rPow (wC (.int 10)) (wC (.int 18)))))) (wBin rMod (wCall (on1 rInt) (wCons (wCall (on1 rAbs) (wCons (wVar 2) wNil)) wNil)) (wBin rPow (wC (.int 10)) (wC (.int 58)))) (wC (.int 0))) [some (.rol (inz ns)), some (.int lap), some (.int own), some (.int c), x4, x5] s3 (Is (.int b)) ∧ 0 ≤ b ∧ b < 10 ^ 58 := by
      have ec : EvB none (wOrT (wTb (wBin rLt (wVar 2) (wC (.int 0)))) (wTb (wBin rGe (wVar 2) (wBin rPow (wC (.int 10)) (wC (.int 18)))))) [some (.rol (inz ns)), some (.int lap), some (.int own), some (.int c), x4, x5] s3 (decide (own < 0) || decide ((10 : Int) ^ 18 ≤ own)) := b_or (b_tb (e_lt (e_var rfl) e_c)) fun _ => b_tb (e_ge (e_var rfl) (e_pow (n := 18) e_c e_c (by decide) (by decide)))
      cases hcc : (decide (own < 0) || decide ((10 : Int) ^ 18 ≤ own)) with
      | true => exact ⟨_, e_if (b := true) (by rw [hcc] at ec; exact ec) (fun _ => e_mod (e_int (e_abs (e_var rfl))) (e_pow (n := 58) e_c e_c (by decide) (by decide)) (by decide)) nofun, Int.emod_nonneg _ (by decide), Int.emod_lt_of_pos _ (by decide)⟩
      | false => exact ⟨0, e_if (b := false) (by rw [hcc] at ec; exact ec) nofun (fun _ => e_c), by decide, by decide⟩
    refine p_ret (E := En0 P) (e_lst (ds := [.int c, .int b]) nofun (a_is (e_var rfl) (a_is hb a_nil)) (Nat.le_of_ble_eq_true rfl)) fun d s4 l4 ⟨n, e, h1, _, h2⟩ => h d s4 ((((l.trans l1).trans l2).trans l3).trans l4) ⟨n, e, ⟨c, b, h1, c0, c1, b0, b1⟩, ?_⟩
    exact Nat.le_trans (((l.trans l1).trans l2).trans l3).len h2
end K11

set_option Elab.async false
set_option linter.all false
set_option maxRecDepth 100000
set_option maxHeartbeats 1000000
/-! k11, part q: the law's equations. -/
namespace K11
open PySem PySem.Spec PyProof.Rows L2 DX

theorem rf_zip {f : Int → Int → Int} {ns us : List Int} {i : Nat} (h1 : i < ns.length) (h2 : i < us.length) : rf (List.zipWith f ns us) i = f (rf ns i) (rf us i) := by
  unfold rf
  rw [List.getD_eq_getElem?_getD, List.getD_eq_getElem?_getD, List.getD_eq_getElem?_getD, List.getElem?_zipWith, List.getElem?_eq_getElem h1, List.getElem?_eq_getElem h2]
  rfl
theorem rf_mapl {f : Int → Int} {ns : List Int} {i : Nat} (h1 : i < ns.length) : rf (ns.map f) i = f (rf ns i) := by
  unfold rf
  rw [List.getD_eq_getElem?_getD, List.getD_eq_getElem?_getD, List.getElem?_map, List.getElem?_eq_getElem h1]
  rfl
section
variable {o : List Int} {w : List (List (Int × Int))} {one two three : List Int}
theorem wfr_cf {ns : List Int} : wfr w ns = cf (Qz (shr w) (rf ns) w.length) (lev w) := by
  show cf (Qf w (rf ns) w.length) (lev w) = _
  rw [Qf_eq]
theorem bfr_cf {ns us : List Int} : bfr w ns us = cf (Bz (shr w) (rf ns) (rf us) w.length) (lev w) := cf_mod Bf_eq
theorem Pq_eq {ns us : List Int} (h1 : ns.length = w.length) (h2 : us.length = w.length) : Pq w ns us = Bz (shr w) (rf ns) (rf us) w.length := by
  unfold Pq
  rw [Tq_eq, Tq_eq, Tq_eq, Qz_ext (r := rf (addL ns us)) (u := fun i => rf ns i + rf us i) fun i hi => rf_zip (f := fun a b => a + b) (by omega) (by omega), Qz_add]
  omega
theorem plain_len (h1 : one.length = o.length) : (plainL o one).length = o.length := by unfold plainL; simp; omega
theorem plain_like (k : Kind o w) (h1 : one.length = w.length) : ∀ i, i < w.length → rf one i = rf (plainL o one) i + rf o i * (rf one i / rf o i) := fun i hi => by
  unfold plainL
  rw [rf_zip (by omega) (by rw [← k.len]; exact hi)]
  have := Int.emod_add_mul_ediv (rf one i) (rf o i)
  omega
theorem E1 (k : Kind o w) (h1 : one.length = w.length) : wfr w one = cf (Tq w (rf (plainL o one)) w.length) (lev w) := by
  rw [wfr_cf, Tq_eq]
  exact cf_mod (Qz_like k.div (plain_like k h1))
theorem E2 : wfr w one = cf (Tq w (rf one) w.length) (lev w) := by rw [wfr_cf, Tq_eq]
theorem gcd_mod (a x : Int) : Int.gcd (a % x) x = Int.gcd a x := by
  have h := Int.emod_add_mul_ediv a x
  refine Nat.dvd_antisymm (Int.dvd_gcd ?_ (Int.gcd_dvd_right ..)) (Int.dvd_gcd ?_ (Int.gcd_dvd_right ..))
  · have h1 : (Int.gcd (a % x) x : Int) ∣ a % x := Int.gcd_dvd_left ..
    have h2 : (Int.gcd (a % x) x : Int) ∣ x * (a / x) := Int.dvd_mul_of_dvd_left (Int.gcd_dvd_right ..)
    have := Int.dvd_add h1 h2
    rwa [h] at this
  · have h1 : (Int.gcd a x : Int) ∣ a := Int.gcd_dvd_left ..
    have h2 : (Int.gcd a x : Int) ∣ x * (a / x) := Int.dvd_mul_of_dvd_left (Int.gcd_dvd_right ..)
    have := Int.dvd_sub h1 h2
    rwa [show a - x * (a / x) = a % x by omega] at this
theorem E3 (k : Kind o w) : ∀ {q one : List Int}, (∀ x ∈ q, 2 ≤ x) → orderL q one = orderL q (plainL q one) := fun {q one} h => by
  unfold orderL
  refine congrArg lcmL ?_
  induction q generalizing one with
  | nil => simp
  | cons x q ih =>
    cases one with
    | nil => simp [plainL]
    | cons a one =>
      show (x / (Int.gcd x a : Nat)) :: List.zipWith (fun x n => x / (Int.gcd x n : Nat)) q one = (x / (Int.gcd x (a % x) : Nat)) :: List.zipWith (fun x n => x / (Int.gcd x n : Nat)) q (plainL q one)
      rw [ih (one := one) fun y hy => h y (List.mem_cons_of_mem _ hy)]
      have e : Int.gcd x (a % x) = Int.gcd x a := by rw [Int.gcd_comm x (a % x), Int.gcd_comm x a]; exact gcd_mod a x
      rw [e]
theorem B_like (k : Kind o w) {x : Nat → Int} (h1 : one.length = w.length) : Bz (shr w) x (rf one) w.length % lev w = Bz (shr w) x (rf (plainL o one)) w.length % lev w := Bz_like k.div (plain_like k h1)
theorem B_like2 (k : Kind o w) {x : Nat → Int} (h1 : one.length = w.length) : Bz (shr w) (rf one) x w.length % lev w = Bz (shr w) (rf (plainL o one)) x w.length % lev w := by
  rw [Bz_comm, B_like k h1, Bz_comm]
theorem P_like (k : Kind o w) (h1 : one.length = w.length) (h2 : two.length = w.length) : Pq w (plainL o one) (plainL o two) % lev w = Bz (shr w) (rf one) (rf two) w.length % lev w := by
  rw [Pq_eq (by rw [plain_len (by rw [h1, k.len]), k.len]) (by rw [plain_len (by rw [h2, k.len]), k.len]), B_like2 k h1, B_like k h2]
theorem E4a (k : Kind o w) (h1 : one.length = w.length) (h2 : two.length = w.length) : bfr w one two = cf (Pq w (plainL o one) (plainL o two)) (lev w) := by
  rw [bfr_cf]; exact cf_mod (P_like k h1 h2).symm
theorem E4b (k : Kind o w) (h1 : one.length = w.length) (h2 : two.length = w.length) : bfr w two one = cf (Pq w (plainL o one) (plainL o two)) (lev w) := by
  rw [bfr_cf, Bz_comm]; exact cf_mod (P_like k h1 h2).symm
theorem E4c (k : Kind o w) (h1 : one.length = w.length) (h2 : two.length = w.length) : bfr w (plainL o one) two = cf (Pq w (plainL o one) (plainL o two)) (lev w) := by
  rw [bfr_cf]; exact cf_mod (by rw [P_like k h1 h2, B_like2 k h1])
theorem E5 : bfr w one one = cf (Qz (shr w) (rf one) w.length * 2) (lev w) := by rw [bfr_cf, Bz_self, Int.mul_comm]
theorem mod_mul {a b c L : Int} (h : a % L = b % L) : (a * c) % L = (b * c) % L := by rw [Int.mul_emod, h, ← Int.mul_emod]
theorem mod_add {a b c d L : Int} (h : a % L = b % L) (g : c % L = d % L) : (a + c) % L = (b + d) % L := by rw [Int.add_emod, h, g, ← Int.add_emod]
theorem E6a (k : Kind o w) (by_ : Int) (h1 : one.length = w.length) : wfr w (one.map fun x => by_ * x) = cf (Tq w (rf (plainL o one)) w.length * (by_ * by_)) (lev w) := by
  rw [wfr_cf, Qz_ext (u := fun i => by_ * rf one i) fun i hi => rf_mapl (f := fun x => by_ * x) (by omega), Qz_mul, Tq_eq, Int.mul_comm]
  exact cf_mod (mod_mul (Qz_like k.div (plain_like k h1)))
theorem E6b (k : Kind o w) (by_ : Int) (h1 : one.length = w.length) (h2 : two.length = w.length) : bfr w (one.map fun x => by_ * x) two = cf (Pq w (plainL o one) (plainL o two) * by_) (lev w) := by
  rw [bfr_cf, Bz_ext (r' := fun i => by_ * rf one i) (fun i hi => rf_mapl (f := fun x => by_ * x) (by omega)) (fun _ _ => rfl), Bz_comm, Bz_mul, Bz_comm, Int.mul_comm]
  exact cf_mod (mod_mul (P_like k h1 h2).symm)
theorem E7 (k : Kind o w) (by_ : Int) (h1 : one.length = w.length) (h2 : two.length = w.length) (h3 : three.length = w.length) : bfr w one (putL by_ two three) = cf (Pq w (plainL o one) (plainL o two) + Bz (shr w) (rf one) (rf three) w.length * by_) (lev w) := by
  rw [bfr_cf, Bz_ext (u := rf (putL by_ two three)) (u' := fun i => rf two i + by_ * rf three i) (fun _ _ => rfl) (fun i hi => rf_zip (f := fun a b => a + by_ * b) (by omega) (by omega)), Bz_add, Bz_mul, Int.mul_comm by_]
  exact cf_mod (mod_add (P_like k h1 h2).symm rfl)
theorem E8 (k : Kind o w) (h1 : one.length = w.length) (h2 : two.length = w.length) : wfr w (putL 1 one two) = cf (Qz (shr w) (rf one) w.length + Qz (shr w) (rf two) w.length + Pq w (plainL o one) (plainL o two)) (lev w) := by
  rw [wfr_cf, Qz_ext (u := fun i => rf one i + rf two i) fun i hi => by rw [show rf (putL 1 one two) i = rf one i + 1 * rf two i from rf_zip (f := fun a b => a + 1 * b) (by omega) (by omega), Int.one_mul], Qz_add]
  exact cf_mod (mod_add rfl (P_like k h1 h2).symm)
end
/-! orders -/
theorem lcmL_dvd (ns : List Int) (h : ∀ x ∈ ns, 0 < x ∧ Sml 13 x) : ∀ x ∈ ns, x ∣ lcmL ns := (lcmL_facts [] ns (by simpa using h) (by decide) (by unfold Sml; decide) (by simp)).2.2
theorem lcmL_least : ∀ (m q : List Int) (c : Int), lcmL q ∣ c → (∀ x ∈ m, x ∣ c) → lcmL (q ++ m) ∣ c
  | [], q, c, h, _ => by simpa using h
  | a :: m, q, c, h, hm => by
    rw [show q ++ a :: m = (q ++ [a]) ++ m by simp]
    refine lcmL_least m _ c ?_ fun x hx => hm x (List.mem_cons_of_mem _ hx)
    rw [lcmL_snoc]
    have h1 : Int.lcm (lcmL q) a ∣ c.natAbs := Int.lcm_dvd (Int.dvd_natAbs.mpr h) (Int.dvd_natAbs.mpr (hm a List.mem_cons_self))
    exact Int.dvd_natAbs.mp (Int.natCast_dvd_natCast.mpr h1)
theorem quo_dvd {x n c : Int} (hx : 2 ≤ x) : x / (Int.gcd x n : Nat) ∣ c ↔ x ∣ c * n := by
  have g0 : 0 < Int.gcd x n := Int.gcd_pos_of_ne_zero_left _ (by omega)
  have c1 := Int.gcd_ediv_gcd_ediv_gcd g0
  have e1 : x / (Int.gcd x n : Nat) * (Int.gcd x n : Nat) = x := Int.ediv_mul_cancel (Int.gcd_dvd_left ..)
  have e2 : n / (Int.gcd x n : Nat) * (Int.gcd x n : Nat) = n := Int.ediv_mul_cancel (Int.gcd_dvd_right ..)
  generalize x / (Int.gcd x n : Nat) = p at *
  generalize n / (Int.gcd x n : Nat) = q at *
  generalize ((Int.gcd x n : Nat) : Int) = g at *
  rw [← e1, ← e2, ← Int.mul_assoc]
  constructor
  · rintro ⟨z, rfl⟩
    exact ⟨z * q, by grind⟩
  · intro h
    have g1 : g ≠ 0 := by
      intro hz; rw [hz, Int.mul_zero] at e1; omega
    have h2 : p ∣ c * q := Int.dvd_of_mul_dvd_mul_right g1 h
    rw [Int.mul_comm] at h2
    rw [Int.gcd_comm] at c1
    exact dvd_cop c1 h2
end K11

set_option Elab.async false
set_option linter.all false
set_option maxRecDepth 100000
set_option maxHeartbeats 1000000
/-! k11, part s: orders; two kinds beside each other. -/
namespace K11
open PySem PySem.Spec PyProof.Rows L2 DX

theorem plain_zero : ∀ {q one : List Int} {c : Int}, (∀ x ∈ q, 2 ≤ x) → (((plainL q (one.map fun x => c * x)).any fun i => !decide (i = 0)) = false ↔ ∀ y ∈ List.zipWith (fun x n => x / (Int.gcd x n : Nat)) q one, y ∣ c)
  | [], one, c, _ => by simp [plainL]
  | x :: q, [], c, _ => by simp [plainL]
  | x :: q, n :: one, c, h => by
    have ih := plain_zero (q := q) (one := one) (c := c) fun y hy => h y (List.mem_cons_of_mem _ hy)
    have hx := h x List.mem_cons_self
    have e : plainL (x :: q) ((n :: one).map fun x => c * x) = (c * n) % x :: plainL q (one.map fun x => c * x) := rfl
    rw [e, List.any_cons, Bool.or_eq_false_iff, ih, List.zipWith_cons_cons]
    simp only [List.mem_cons, forall_eq_or_imp, Bool.not_eq_false', decide_eq_true_eq]
    rw [quo_dvd hx]
    exact and_congr_left' ⟨Int.dvd_of_emod_eq_zero, Int.emod_eq_zero_of_dvd⟩
section
variable {o : List Int} {w : List (List (Int × Int))} {one : List Int}
theorem order_pos (h2 : ∀ x ∈ o, 2 ≤ x ∧ x ≤ 1024) : 0 < orderL o one ∧ Sml (13 * (List.zipWith (fun x n => x / (Int.gcd x n : Nat)) o one).length + 1) (orderL o one) :=
  let ⟨a, b, _⟩ := lcmL_facts [] _ (by simpa using order_mem (ns := one) h2) (by decide) (by unfold Sml; decide) (by simp)
  ⟨a, b⟩
theorem E10a (h2 : ∀ x ∈ o, 2 ≤ x ∧ x ≤ 1024) : ((plainL o (one.map fun x => orderL o one * x)).any fun i => !decide (i = 0)) = false :=
  (plain_zero fun x hx => (h2 x hx).1).mpr fun y hy => lcmL_dvd _ (order_mem h2) y hy
theorem E10b (h2 : ∀ x ∈ o, 2 ≤ x ∧ x ≤ 1024) {c : Int} (c0 : 0 < c) (c1 : c < orderL o one) : ((plainL o (one.map fun x => c * x)).any fun i => !decide (i = 0)) = true := by
  cases hb : ((plainL o (one.map fun x => c * x)).any fun i => !decide (i = 0)) with
  | true => rfl
  | false =>
    have h := (plain_zero fun x hx => (h2 x hx).1).mp hb
    have d : orderL o one ∣ c := lcmL_least _ [] c (by show (1 : Int) ∣ c; exact Int.one_dvd c) h
    have := Int.le_of_dvd c0 d
    omega
end
/-! beside -/
theorem prod_app : ∀ (p : List Int) (a : Int), p.foldl (· * ·) a = a * p.foldl (· * ·) 1
  | [], a => by simp
  | x :: p, a => by rw [List.foldl_cons, List.foldl_cons, prod_app p (a * x), prod_app p (1 * x)]; grind
section
variable {o p : List Int} {w v : List (List (Int × Int))}
theorem Fr.nought : Fr (0, 1) := ⟨by decide, by decide, by decide, by decide⟩
theorem Kind.beside (k : Kind o w) (kp : Kind p v) (hn : o.length + p.length ≤ 10) (hs : o.foldl (· * ·) 1 * p.foldl (· * ·) 1 ≤ 1024) : Kind (o ++ p) (besW o w v) := by
  have hl := k.len
  have hlp := kp.len
  have wi : ∀ {i : Nat} {t : List (Int × Int)}, (besW o w v)[i]? = some t → (i < w.length ∧ w[i]? = some t) ∨ (w.length ≤ i ∧ ∃ u, v[i - w.length]? = some u ∧ t = List.replicate o.length ((0 : Int), (1 : Int)) ++ u) := fun {i t} h => by
    unfold besW at h
    by_cases hi : i < w.length
    · rw [List.getElem?_append_left hi] at h; exact .inl ⟨hi, h⟩
    · rw [List.getElem?_append_right (by omega), List.getElem?_map] at h
      obtain ⟨u, h1, h2⟩ := Option.map_eq_some_iff.mp h
      exact .inr ⟨by omega, u, h1, h2.symm⟩
  have oi : ∀ {i : Nat} {y : Int}, (o ++ p)[i]? = some y → (i < o.length ∧ o[i]? = some y) ∨ (o.length ≤ i ∧ p[i - o.length]? = some y) := fun {i y} h => by
    by_cases hi : i < o.length
    · rw [List.getElem?_append_left hi] at h; exact .inl ⟨hi, h⟩
    · rw [List.getElem?_append_right (by omega)] at h; exact .inr ⟨by omega, h⟩
  have ti : ∀ {j : Nat} {u : List (Int × Int)} {q : Int × Int}, (List.replicate o.length ((0 : Int), (1 : Int)) ++ u)[j]? = some q → (j < o.length ∧ q = (0, 1)) ∨ (o.length ≤ j ∧ u[j - o.length]? = some q) := fun {j u q} h => by
    by_cases hj : j < o.length
    · rw [List.getElem?_append_left (by simpa using hj), List.getElem?_replicate, if_pos hj] at h
      exact .inl ⟨hj, by simpa using h.symm⟩
    · rw [List.getElem?_append_right (by simpa using hj), List.length_replicate] at h; exact .inr ⟨by omega, h⟩
  refine ⟨by simp; omega, by simp [besW]; omega, ?_, ?_, ?_, ?_, ?_, ?_, ?_⟩
  · intro x hx; rcases List.mem_append.mp hx with h | h
    · exact k.two x h
    · exact kp.two x h
  · intro x hx; rcases List.mem_append.mp hx with h | h
    · exact k.hi x h
    · exact kp.hi x h
  · rw [List.foldl_append, prod_app]; exact hs
  · intro i t h
    rcases wi h with ⟨_, h⟩ | ⟨h1, u, h2, rfl⟩
    · exact k.tri i t h
    · have := kp.tri _ _ h2
      simp; omega
  · intro t ht q hq
    unfold besW at ht
    rcases List.mem_append.mp ht with h | h
    · exact k.fr t h q hq
    · obtain ⟨u, hu, rfl⟩ := List.mem_map.mp h
      rcases List.mem_append.mp hq with h | h
      · rw [(List.mem_replicate.mp h).2]; exact Fr.nought
      · exact kp.fr u hu q h
  · intro i t q y h1 h2 h3
    rcases wi h1 with ⟨g1, h1⟩ | ⟨g1, u, hu, rfl⟩
    · rcases oi h3 with ⟨_, h3⟩ | ⟨g3, _⟩
      · exact k.own i t q y h1 h2 h3
      · omega
    · rcases oi h3 with ⟨g3, _⟩ | ⟨_, h3⟩
      · omega
      · rcases ti h2 with ⟨g2, _⟩ | ⟨_, h2⟩
        · omega
        · exact kp.own (i - w.length) u q y hu (by rw [hl]; exact h2) (by rw [hl]; exact h3)
  · intro i j t q y z h1 hj h2 h3 h4
    rcases wi h1 with ⟨g1, h1⟩ | ⟨g1, u, hu, rfl⟩
    · rcases oi h3 with ⟨_, h3⟩ | ⟨g3, _⟩
      · rcases oi h4 with ⟨_, h4⟩ | ⟨g4, _⟩
        · exact k.cross i j t q y z h1 hj h2 h3 h4
        · omega
      · omega
    · rcases oi h3 with ⟨g3, _⟩ | ⟨_, h3⟩
      · omega
      · rcases ti h2 with ⟨_, rfl⟩ | ⟨g2, h2⟩
        · simp
        · rcases oi h4 with ⟨g4, _⟩ | ⟨_, h4⟩
          · omega
          · exact kp.cross (i - w.length) (j - w.length) u q y z hu (by omega) (by rw [hl]; exact h2) (by rw [hl]; exact h3) (by rw [hl]; exact h4)
theorem lcmL_app (q m : List Int) : lcmL q ∣ lcmL (q ++ m) := by
  induction m generalizing q with
  | nil => simp
  | cons a m ih =>
    rw [show q ++ a :: m = (q ++ [a]) ++ m by simp]
    refine Int.dvd_trans ?_ (ih (q ++ [a]))
    rw [lcmL_snoc]
    exact Int.dvd_lcm_left ..
theorem lev_left : lev w ∣ lev (besW o w v) := by
  unfold lev besW
  rw [List.flatMap_append]
  exact lcmL_app _ _
theorem lev_right (k : Kind o w) (kp : Kind p v) (kb : Kind (o ++ p) (besW o w v)) : lev v ∣ lev (besW o w v) := by
  refine lcmL_least _ [] _ (by show (1 : Int) ∣ _; exact Int.one_dvd _) fun x hx => ?_
  obtain ⟨told, ht, hx⟩ := List.mem_flatMap.mp hx
  obtain ⟨q, hq, rfl⟩ := List.mem_map.mp hx
  refine kb.lev_facts.2.2 (List.replicate o.length ((0 : Int), (1 : Int)) ++ told) ?_ q (List.mem_append_right _ hq)
  unfold besW
  exact List.mem_append_right _ (List.mem_map.mpr ⟨told, ht, rfl⟩)
theorem share_scale {q : Int × Int} {L M : Int} (h0 : 0 < q.2) (hL : q.2 ∣ L) (hM : L ∣ M) (L0 : 0 < L) : q.1 * (M / q.2) = q.1 * (L / q.2) * (M / L) := by
  obtain ⟨a, rfl⟩ := hL
  obtain ⟨b, rfl⟩ := hM
  rw [Int.mul_ediv_cancel_left _ (by omega), Int.mul_ediv_cancel_left _ (by omega), Int.mul_assoc q.2, Int.mul_ediv_cancel_left _ (by omega), Int.mul_assoc]
theorem shr_left (k : Kind o w) {i j : Nat} (hi : i < w.length) (hj : j ≤ i) : shr (besW o w v) i j = shr w i j * (lev (besW o w v) / lev w) := by
  have e : partA (besW o w v) i j = partA w i j := by
    unfold partA besW
    rw [List.getD_eq_getElem?_getD (l := w ++ _), List.getElem?_append_left hi, ← List.getD_eq_getElem?_getD]
  unfold shr
  rw [e]
  have f := partA_fr k hi hj
  exact share_scale (by have := f.lo; have := f.hi; omega) (partA_dvd k hi hj) lev_left k.lev_facts.1
theorem partR (k : Kind o w) {i j : Nat} (hi : i < v.length) : partA (besW o w v) (w.length + i) j = if j < w.length then (0, 1) else partA v i (j - w.length) := by
  unfold partA besW
  have e : (w ++ v.map fun told => List.replicate o.length ((0 : Int), (1 : Int)) ++ told).getD (w.length + i) [] = List.replicate o.length ((0 : Int), (1 : Int)) ++ v.getD i [] := by
    rw [List.getD_eq_getElem?_getD, List.getElem?_append_right (by omega), Nat.add_sub_cancel_left, List.getElem?_map, List.getD_eq_getElem?_getD, List.getElem?_eq_getElem hi]
    rfl
  rw [e, List.getD_eq_getElem?_getD]
  by_cases hj : j < w.length
  · rw [if_pos hj, List.getElem?_append_left (by rw [List.length_replicate, ← k.len]; exact hj), List.getElem?_replicate, if_pos (by rw [← k.len]; exact hj)]
    rfl
  · rw [if_neg hj, List.getElem?_append_right (by rw [List.length_replicate, ← k.len]; omega), List.length_replicate, ← k.len, ← List.getD_eq_getElem?_getD]
theorem shr_zero (k : Kind o w) {i j : Nat} (hi : i < v.length) (hj : j < w.length) : shr (besW o w v) (w.length + i) j = 0 := by
  unfold shr
  rw [partR k hi, if_pos hj, Int.zero_mul]
theorem shr_right (k : Kind o w) (kp : Kind p v) (kb : Kind (o ++ p) (besW o w v)) {i j : Nat} (hi : i < v.length) (hj : j ≤ i) : shr (besW o w v) (w.length + i) (w.length + j) = shr v i j * (lev (besW o w v) / lev v) := by
  unfold shr
  rw [partR k hi, if_neg (by omega), Nat.add_sub_cancel_left]
  have f := partA_fr kp hi hj
  exact share_scale (by have := f.lo; have := f.hi; omega) (partA_dvd kp hi hj) (lev_right k kp kb) kp.lev_facts.1
theorem Qz_scale {s s' : Nat → Nat → Int} {r : Nat → Int} (c : Int) : ∀ {n : Nat}, (∀ i j, i < n → j ≤ i → s' i j = s i j * c) → Qz s' r n = Qz s r n * c
  | 0, _ => by simp [Qz]
  | n + 1, h => by
    show Qz s' r n + r n * (r n * s' n n + Sm n fun j => r j * s' n j) = (Qz s r n + r n * (r n * s n n + Sm n fun j => r j * s n j)) * c
    rw [Qz_scale c (n := n) fun i j hi hj => h i j (by omega) hj, h n n (by omega) (Nat.le_refl _), Sm.ext (f := fun j => r j * s' n j) (g := fun j => c * (r j * s n j)) fun j hj => by rw [h n j (by omega) (by omega)]; grind, Sm.mul]
    grind
theorem Qz_beside (k : Kind o w) (kp : Kind p v) (kb : Kind (o ++ p) (besW o w v)) {r : Nat → Int} : ∀ {m : Nat}, m ≤ v.length → Qz (shr (besW o w v)) r (w.length + m) = Qz (shr w) r w.length * (lev (besW o w v) / lev w) + Qz (shr v) (fun i => r (w.length + i)) m * (lev (besW o w v) / lev v)
  | 0, _ => by
    show Qz (shr (besW o w v)) r w.length = _ + 0 * _
    rw [Qz_scale (lev (besW o w v) / lev w) fun i j hi hj => shr_left k hi hj]
    simp
  | m + 1, hm => by
    have ih := Qz_beside k kp kb (r := r) (m := m) (by omega)
    show Qz (shr (besW o w v)) r (w.length + m) + r (w.length + m) * (r (w.length + m) * shr (besW o w v) (w.length + m) (w.length + m) + Sm (w.length + m) fun j => r j * shr (besW o w v) (w.length + m) j) =
      Qz (shr w) r w.length * (lev (besW o w v) / lev w) + (Qz (shr v) (fun i => r (w.length + i)) m + r (w.length + m) * (r (w.length + m) * shr v m m + Sm m fun j => r (w.length + j) * shr v m j)) * (lev (besW o w v) / lev v)
    rw [ih, shr_right k kp kb (by omega) (Nat.le_refl _), Sm.split, Sm.ext (n := w.length) (f := fun j => r j * shr (besW o w v) (w.length + m) j) (g := fun j => 0 * r j) fun j hj => by rw [shr_zero k (by omega) hj]; omega, Sm.mul,
      Sm.ext (n := m) (f := fun j => r (w.length + j) * shr (besW o w v) (w.length + m) (w.length + j)) (g := fun j => (lev (besW o w v) / lev v) * (r (w.length + j) * shr v m j)) fun j hj => by rw [shr_right k kp kb (by omega) (by omega)]; grind, Sm.mul]
    grind
theorem rf_left {ns us : List Int} {i : Nat} (h : i < ns.length) : rf (ns ++ us) i = rf ns i := by
  unfold rf
  rw [List.getD_eq_getElem?_getD, List.getD_eq_getElem?_getD, List.getElem?_append_left h]
theorem rf_right {ns us : List Int} {i : Nat} : rf (ns ++ us) (ns.length + i) = rf us i := by
  unfold rf
  rw [List.getD_eq_getElem?_getD, List.getD_eq_getElem?_getD, List.getElem?_append_right (by omega), Nat.add_sub_cancel_left]
theorem cf_lift {x L M : Int} (h : 0 < L) (hM : 0 < M) (d : L ∣ M) : cf x L = cf (x * (M / L)) M := cf_eq h hM (by rw [Int.mul_assoc, Int.ediv_mul_cancel d])
theorem E11 (k : Kind o w) (kp : Kind p v) (kb : Kind (o ++ p) (besW o w v)) {one row : List Int} (h1 : one.length = w.length) (h2 : row.length = v.length) :
    wfr (besW o w v) (one ++ row) = cf (Tq w (rf (plainL o one)) w.length * (lev (besW o w v) / lev w) + Tq v (rf row) v.length * (lev (besW o w v) / lev v)) (lev (besW o w v)) := by
  have hl : (besW o w v).length = w.length + v.length := by unfold besW; simp
  rw [wfr_cf, hl, Qz_beside k kp kb (Nat.le_refl _), Tq_eq, Tq_eq, Qz_ext (r := rf (one ++ row)) (u := rf one) fun i hi => rf_left (by omega), Qz_ext (r := fun i => rf (one ++ row) (w.length + i)) (u := rf row) fun i hi => by rw [← h1]; exact rf_right]
  refine cf_mod (mod_add ?_ rfl)
  have h3 : Qz (shr w) (rf one) w.length % lev w = Qz (shr w) (rf (plainL o one)) w.length % lev w := Qz_like k.div (plain_like k h1)
  have h4 := mod_scale (x := Qz (shr w) (rf one) w.length) (y := Qz (shr w) (rf one) w.length * (lev (besW o w v) / lev w)) k.lev_facts.1 kb.lev_facts.1 (by rw [Int.mul_assoc, Int.ediv_mul_cancel lev_left])
  have h5 := mod_scale (x := Qz (shr w) (rf (plainL o one)) w.length) (y := Qz (shr w) (rf (plainL o one)) w.length * (lev (besW o w v) / lev w)) k.lev_facts.1 kb.lev_facts.1 (by rw [Int.mul_assoc, Int.ediv_mul_cancel lev_left])
  rw [h3, h5] at h4
  exact (Int.eq_of_mul_eq_mul_right (Int.ne_of_gt k.lev_facts.1) h4).symm
end
end K11

set_option Elab.async false
set_option linter.all false
set_option maxRecDepth 100000
set_option maxHeartbeats 2000000
/-! k11, part r: the law. -/
namespace K11
open PySem PySem.Spec PyProof.Rows L2 DX

theorem okD_tI {m : Nat} {ns : List Int} (h : ns.length ≤ 1000) : okD (m + 2) (tI ns) = true := by
  show (decide ((inz ns).length ≤ 1000) && (inz ns).all (okD (m + 1))) = true
  rw [Bool.and_eq_true, decide_eq_true_eq, List.all_eq_true]
  exact ⟨by simpa using h, fun d hd => by obtain ⟨i, _, rfl⟩ := List.mem_map.mp hd; rfl⟩
theorem okD_cf {m : Nat} {x L : Int} : okD (m + 2) (cf x L) = true := by
  show (decide (2 ≤ 1000) && [D.int (cA x L), D.int (cB x L)].all (okD (m + 1))) = true
  simp [okD]
theorem okD_tup {m : Nat} {xs : List D} (h : xs.length ≤ 1000) (hx : ∀ d ∈ xs, okD m d = true) : okD (m + 1) (.tup xs) = true := by
  show (decide (xs.length ≤ 1000) && xs.all (okD m)) = true
  rw [Bool.and_eq_true, decide_eq_true_eq, List.all_eq_true]
  exact ⟨h, hx⟩
section
variable {t : Option Nat} {env : Ev} {st : Sto} {o : List Int} {w : List (List (Int × Int))} {ns us : List Int} {wk wr wu : W}
theorem q_no {c : WT} {w' u : WS} {E : En} (h : EvB t c env st false) (h2 : ∀ s, Le t st s → u E env s) : wIfS c w' u E env st := q_if h nofun fun _ => h2
theorem x_like {d : D} {a b : W} (h1 : Evl t a env st (Is d)) (h2 : Evl t b env st (Is d)) (ok : okD 5 d = true) : Evl t (wDef 2 (sp__law_like 5) (wCons a (wCons b wNil))) env st (Is (.bl true)) := e_def2 h1 h2 fun s _ P p => ⟨d, rfl, ok, Ret.evp p⟩
theorem x_nolike {d : D} {a b : W} (h1 : Evl t a env st (Is d)) (h2 : Evl t b env st (Is d)) (ok : okD 5 d = true) : EvB t (wNotT (wTru (wDef 2 (sp__law_like 5) (wCons a (wCons b wNil))))) env st false := b_not (b := true) (b_bl (x_like h1 h2 ok))
theorem x_plain (k : Kind o w) (hl : ns.length = o.length) (hk : Evl t wk env st (Is (kD o w))) (hr : Evl t wr env st (Is (tI ns))) : Evl t (wDef 2 sp_plain (wCons wk (wCons wr wNil))) env st (Is (tI (plainL o ns))) := e_def2 hk hr fun s _ P p => ⟨o, w, ns, rfl, k, hl, Ret.evp p⟩
theorem x_worth (k : Kind o w) (hl : ns.length = w.length) (hb : ∀ x ∈ ns, Sml 400 x) (hk : Evl t wk env st (Is (kD o w))) (hr : Evl t wr env st (Is (tI ns))) : Evl t (wDef 2 sp_worth (wCons wk (wCons wr wNil))) env st (Is (wfr w ns)) := e_def2 hk hr fun s _ P p => ⟨o, w, ns, rfl, k, hl, hb, Ret.evp p⟩
theorem x_order (k : Kind o w) (hl : ns.length = o.length) (hk : Evl t wk env st (Is (kD o w))) (hr : Evl t wr env st (Is (tI ns))) : Evl t (wDef 2 sp_order (wCons wk (wCons wr wNil))) env st (Is (.int (orderL o ns))) := e_def2 hk hr fun s _ P p => ⟨o, w, ns, rfl, k, hl, Ret.evp p⟩
theorem x_pairing (k : Kind o w) (hl : ns.length = w.length) (hlu : us.length = w.length) (hb : ∀ x ∈ ns, Sml 400 x) (hbu : ∀ x ∈ us, Sml 400 x) (hk : Evl t wk env st (Is (kD o w))) (hr : Evl t wr env st (Is (tI ns))) (hu : Evl t wu env st (Is (tI us))) : Evl t (wDef 3 sp_pairing (wCons wk (wCons wr (wCons wu wNil)))) env st (Is (bfr w ns us)) := e_def3 hk hr hu fun s _ P p => ⟨o, w, ns, us, rfl, k, hl, hlu, hb, hbu, Ret.evp p⟩
theorem x_lplain (hl : o.length ≤ 10) (h2 : ∀ x ∈ o, 2 ≤ x) (hk : Evl t wk env st (Is (kD o w))) (hr : Evl t wr env st (Is (tI ns))) : Evl t (wDef 2 sp__law_plain (wCons wk (wCons wr wNil))) env st (Is (tI (plainL o ns))) := e_def2 hk hr fun s _ P p => ⟨o, w, ns, _, rfl, .inl rfl, hl, h2, Ret.evp p⟩
theorem x_lworth (k : Kind o w) (hl : ns.length = w.length) (hb : ∀ x ∈ ns, Sml 1000 x) (hk : Evl t wk env st (Is (kD o w))) (hr : Evl t wr env st (Is (tI ns))) : Evl t (wDef 2 sp__law_worth (wCons wk (wCons wr wNil))) env st (Is (cf (Tq w (rf ns) w.length) (lev w))) := e_def2 hk hr fun s _ P p => ⟨o, w, ns, rfl, k, hl, hb, Ret.evp p⟩
theorem x_lorder (hl : o.length ≤ 10) (h2 : ∀ x ∈ o, 2 ≤ x ∧ x ≤ 1024) (hb : ∀ x ∈ ns, Sml 1000 x) (hk : Evl t wk env st (Is (kD o w))) (hr : Evl t wr env st (Is (tI ns))) : Evl t (wDef 2 sp__law_order (wCons wk (wCons wr wNil))) env st (Is (.int (orderL o ns))) := e_def2 hk hr fun s _ P p => ⟨o, w, ns, rfl, hl, h2, hb, Ret.evp p⟩
theorem x_lpairing (k : Kind o w) (hl : ns.length = w.length) (hlu : us.length = w.length) (hb : ∀ x ∈ ns, Sml 400 x) (hbu : ∀ x ∈ us, Sml 400 x) (hk : Evl t wk env st (Is (kD o w))) (hr : Evl t wr env st (Is (tI ns))) (hu : Evl t wu env st (Is (tI us))) : Evl t (wDef 3 sp__law_pairing (wCons wk (wCons wr (wCons wu wNil)))) env st (Is (cf (Pq w ns us) (lev w))) := e_def3 hk hr hu fun s _ P p => ⟨o, w, ns, us, rfl, k, hl, hlu, hb, hbu, Ret.evp p⟩
theorem x_added {x y L : Int} (h0 : 0 < L) (h1 : Sml 3000 L) (hk : Evl t wk env st (Is (cf x L))) (hr : Evl t wr env st (Is (cf y L))) : Evl t (wDef 2 sp__law_added (wCons wk (wCons wr wNil))) env st (Is (cf (x + y) L)) := e_def2 hk hr fun s _ P p => ⟨x, y, L, rfl, h0, h1, Ret.evp p⟩
theorem x_times {x n L : Int} (h0 : 0 < L) (h1 : Sml 3000 L) (hn : Sml 3000 n) (hk : Evl t wk env st (Is (cf x L))) (hr : Evl t wr env st (Is (.int n))) : Evl t (wDef 2 sp__law_times (wCons wk (wCons wr wNil))) env st (Is (cf (x * n) L)) := e_def2 hk hr fun s _ P p => ⟨x, n, L, rfl, h0, h1, hn, Ret.evp p⟩
theorem x_put {kd : D} {b : Int} {wb : W} (hl : us.length ≤ 10) (hb : Sml 400 b) (hu : ∀ x ∈ us, Sml 400 x) (hk : Evl t wk env st (Is kd)) (hr : Evl t wr env st (Is (tI ns))) (hw : Evl t wu env st (Is (tI us))) (hbb : Evl t wb env st (Is (.int b))) : Evl t (wDef 4 sp__law_put (wCons wk (wCons wr (wCons wu (wCons wb wNil))))) env st (Is (tI (putL b ns us))) :=
  e_def (a_is hk (a_is hr (a_is hw (a_is hbb a_nil)))) rfl fun ds s l f P p => by rw [f2_is (xs := [kd, tI ns, tI us, .int b]) f]; exact ⟨kd, ns, us, b, rfl, hl, hb, hu, Ret.evp p⟩
theorem x_rep {d : D} {wa : W} {n : Nat} (h : Evl t wa env st (Is d)) (hn : n ≤ 1000) : Evl t (wBin rMul (wTup (wCons wa wNil)) (wC (.int n))) env st (Is (.tup (List.replicate n d))) := by
  have := e_bin (t := t) (r := rMul) (a := .tup [d]) (b := .int (n : Int)) (c := .tup (List.replicate ((n : Int)).toNat [d]).flatten) (env := env) (st := st) (wa := wTup (wCons wa wNil)) (wb := wC (.int n)) (e_tup (ds := [d]) (a_is h a_nil) (Nat.le_of_ble_eq_true rfl)) e_c fun s P q => ⟨⟨nofun, by omega, by omega, Nat.le_of_ble_eq_true rfl⟩, q⟩
  rw [Int.toNat_natCast] at this
  have e : (List.replicate n [d]).flatten = List.replicate n d := by induction n with
    | zero => rfl
    | succ n ih => rw [List.replicate_succ, List.flatten_cons, ih (by omega) (by exact e_bin (e_tup (ds := [d]) (a_is h a_nil) (Nat.le_of_ble_eq_true rfl)) e_c fun s P q => ⟨⟨nofun, by omega, by omega, Nat.le_of_ble_eq_true rfl⟩, by rw [Int.toNat_natCast]; exact q⟩)]; rfl
  rw [e] at this
  exact this
theorem e_tupLV {wl : W} {Q : List Int → Prop} (h : Evl t wl env st (fun d s => ∃ ns, Q ns ∧ Ls t 0 (inz ns) d s)) : Evl t (wCall (on1 rTupleOf) (wCons wl wNil)) env st (DX.Sm fun d => ∃ ns, d = tI ns ∧ Q ns) :=
  e_call1 h (fun d s s' ⟨ns, q, v⟩ l => ⟨ns, q, mono_ls _ _ _ v l⟩) fun d s _ ⟨ns, q, v⟩ P p => ⟨inz ns, items_ls v, p.done ⟨ns, rfl, q⟩⟩
theorem _root_.Eq.cast {a b : D} {wx : W} (h : a = b) (e : Evl t wx env st (Is a)) : Evl t wx env st (Is b) := h ▸ e
theorem q_asgV {we : W} {g : WG} {V : VP} {E : En} (h : Evl t we env st V) (k : ∀ d s, Le t st s → V d s → g d env s E.nx) : wAsg we g E env st := h.go k
theorem g3 {i j k : Nat} {m : Nat} {a b c : D} {s : Sto} {P : Ev → Sto → Prop} (hm : s[m]? = some (.lst [a, b, c])) (h : P (((env.set i (some a)).set j (some b)).set k (some c)) s) : gTp 3 (gsCons (gNm i) (gsCons (gNm j) (gsCons (gNm k) gsNil))) (.ref m) env s P :=
  ⟨[a, b, c], by unfold itemsD; dsimp only; rw [hm], rfl, a, _, rfl, b, _, rfl, c, _, rfl, rfl, h⟩
theorem x_lplainL {lo : Nat} {wl : W} (hl : o.length ≤ 10) (h2 : ∀ x ∈ o, 2 ≤ x) (hk : Evl t wk env st (Is (kD o w))) (hr : Evl t wl env st (Ls t lo (inz ns))) : Evl t (wDef 2 sp__law_plain (wCons wk (wCons wl wNil))) env st (Is (tI (plainL o ns))) :=
  e_def (Vs := [Is (kD o w), Ls t lo (inz ns)]) (a_is hk (a_cons hr a_nil mono_ls)) rfl fun ds s l f P p => by
    cases f with
    | cons a f => cases f with
      | cons b f =>
        cases f; cases a
        obtain ⟨m, rfl, h1, _⟩ := b
        exact ⟨o, w, ns, .ref m, rfl, .inr ⟨m, rfl, h1, nofun, Nat.zero_le _⟩, hl, h2, Ret.evp p⟩
theorem x_mulRow {c : Nat} {b : Int} {ns : List Int} (ht : ∀ i, t = some i → i < st.length) (h4 : env[4]? = some (some (tI ns))) (hc : env[c]? = some (some (.int b))) (hc8 : c ≠ 8) (hl : env.length = 23) (hb : Sml 400 b) (hn : ∀ x ∈ ns, Sml 400 x) (hz : ns.length ≤ 10) :
    Evl t (wLc [8] (wIter (wVar 4)) (gNm 8) wYes (wBin rMul (wVar c) (wVar 8))) env st (Ls t st.length (inz (ns.map fun x => b * x))) := by
  have e : (inz ns).map (fun d => match d with | .int x => D.int (b * x) | _ => .non) = inz (ns.map fun x => b * x) := by simp [inz]
  rw [← e]
  refine e_lc _ ht (i_tup (e_var h4)) (by simp; omega) fun x hx s l P p => ?_
  obtain ⟨y, hy, rfl⟩ := List.mem_map.mp hx
  refine g1 (p _ (e_mul (e_var ?_) (e_var ?_) (hb.cm (hn y hy))))
  · rw [List.getElem?_set_ne (Ne.symm hc8)]
    show (env.set 8 none)[c]? = _
    rw [List.getElem?_set_ne (Ne.symm hc8)]; exact hc
  · rw [List.getElem?_set_self (by show 8 < (env.set 8 none).length; simp [hl])]
end
section
variable {t : Option Nat} {env : Ev} {st : Sto} {o : List Int} {w : List (List (Int × Int))} {one : List Int}
theorem x_any {c : Nat} {b : Int} (ht : ∀ i, t = some i → i < st.length) (h2 : env[2]? = some (some (kD o w))) (h4 : env[4]? = some (some (tI one))) (hc : env[c]? = some (some (.int b))) (hc8 : c ≠ 8) (hl : env.length = 23) (hb : Sml 400 b) (hn : ∀ x ∈ one, Sml 400 x) (hz : one.length ≤ 10) (ho : o.length ≤ 10) (o2 : ∀ x ∈ o, 2 ≤ x) :
    Evl t (wCall (on1 (rAnyD fun bs => bs.any id)) (wCons (wDef 2 sp__law_plain (wCons (wVar 2) (wCons (wLc [8] (wIter (wVar 4)) (gNm 8) wYes (wBin rMul (wVar c) (wVar 8))) wNil))) wNil)) env st (Is (.bl ((plainL o (one.map fun x => b * x)).any fun i => !decide (i = 0)))) :=
  e_anyT (x_lplainL (w := w) ho o2 (e_var h2) (x_mulRow ht h4 hc hc8 hl hb hn hz))
theorem look1 (ht : ∀ i, t = some i → i < st.length) (h2 : env[2]? = some (some (kD o w))) (h4 : env[4]? = some (some (tI one))) (hc : env[16]? = some (some (.int (orderL o one)))) (hl : env.length = 23) (sq : Sml 400 (orderL o one)) (hn : ∀ x ∈ one, Sml 400 x) (hz : one.length ≤ 10) (ho : o.length ≤ 10) (o24 : ∀ x ∈ o, 2 ≤ x ∧ x ≤ 1024) :
    EvB t (wTru (wCall (on1 (rAnyD fun bs => bs.any id)) (wCons (wDef 2 sp__law_plain (wCons (wVar 2) (wCons (wLc [8] (wIter (wVar 4)) (gNm 8) wYes (wBin rMul (wVar 16) (wVar 8))) wNil))) wNil))) env st false := by
  have := x_any (c := 16) ht h2 h4 hc (by decide) hl sq hn hz ho fun x hx => (o24 x hx).1
  rw [E10a o24] at this
  exact b_bl this
theorem ne_empty {s : Sto} {a b : Nat} {P : DP} (ha : s[a]? = some (.lst [])) (hb : s[b]? = some (.lst [])) (p : P (.bl false) s) : rNe (.ref a) (.ref b) s P := by
  have e1 : toP s 16 (.ref a) = some (.list []) := by
    show (match s[a]? with | some (.lst xs) => (allP (toP s 15) xs).map PyData.list | _ => none) = _
    rw [ha]; rfl
  have e2 : toP s 16 (.ref b) = some (.list []) := by
    show (match s[b]? with | some (.lst xs) => (allP (toP s 15) xs).map PyData.list | _ => none) = _
    rw [hb]; rfl
  exact ⟨_, _, e1, e2, rfl, rfl, p⟩
theorem look2 (ht : ∀ i, t = some i → i < st.length) (h2 : env[2]? = some (some (kD o w))) (h4 : env[4]? = some (some (tI one))) (hc : env[16]? = some (some (.int (orderL o one)))) (hl : env.length = 23) (sq : Sml 400 (orderL o one)) (hn : ∀ x ∈ one, Sml 400 x) (hz : one.length ≤ 10) (ho : o.length ≤ 10) (o24 : ∀ x ∈ o, 2 ≤ x ∧ x ≤ 1024) :
    EvB t (wTb (wBin rNe (wLc [17] (wRange2 (wCons (wC (.int 1)) (wCons (wCall (on2 rMin2) (wCons (wVar 16) (wCons (wC (.int 60)) wNil))) wNil))) (gNm 17) (wNotT (wTru (wCall (on1 (rAnyD fun bs => bs.any id)) (wCons (wDef 2 sp__law_plain (wCons (wVar 2) (wCons (wLc [8] (wIter (wVar 4)) (gNm 8) wYes (wBin rMul (wVar 17) (wVar 8))) wNil))) wNil)))) (wC (.int 1))) (wLst wNil))) env st false := by
  obtain ⟨q0, _⟩ := order_pos (one := one) o24
  have h := e_lcF (t := t) (own := [17]) (wi := wRange2 (wCons (wC (.int 1)) (wCons (wCall (on2 rMin2) (wCons (wVar 16) (wCons (wC (.int 60)) wNil))) wNil))) (g := gNm 17) (wt := wNotT (wTru (wCall (on1 (rAnyD fun bs => bs.any id)) (wCons (wDef 2 sp__law_plain (wCons (wVar 2) (wCons (wLc [8] (wIter (wVar 4)) (gNm 8) wYes (wBin rMul (wVar 17) (wVar 8))) wNil))) wNil)))) (we := wC (.int 1)) (env := env) (st := st)
    (fun _ => false) (fun _ => .int 1) ht (i_rng2 (i := 1) (j := min (orderL o one) 60) e_c (e_min2 (e_var hc) e_c) (by omega)) (by unfold rangeItems; simp; omega) fun x hx s l P p => by
      obtain ⟨i, hi, rfl⟩ := List.mem_map.mp hx
      have hi := List.mem_range.mp hi
      refine g1 (p _ ?_ nofun)
      refine b_not (b := true) ?_
      have := x_any (t := t) (c := 17) (b := 1 + (i : Int) * 1) (env := (wipeE env [17]).set 17 (some (.int (1 + (i : Int) * 1)))) (st := s) (o := o) (w := w) (one := one) (fun j e => by have := ht j e; have := l.len; omega) (by simp [wipeE, h2]) (by simp [wipeE, h4]) (by rw [List.getElem?_set_self (by simp [wipeE, hl])]) (by decide) (by simp [wipeE, hl]) (by unfold Sml; exact Nat.lt_of_lt_of_le (show _ < 2 ^ 10 by show _ < 1024; omega) (Nat.pow_le_pow_right (by decide) (by decide))) hn hz ho fun x hx => (o24 x hx).1
      rw [E10b o24 (by omega) (by omega)] at this
      exact b_bl this
  rw [List.filter_eq_nil_iff.mpr (fun _ _ => Bool.false_ne_true)] at h
  refine b_tb (e_binV (Va := Ls t 0 []) (Vb := Ls t 0 []) (h.weak fun d s _ ⟨n, e, h1, h2, _⟩ => ⟨n, e, h1, h2, Nat.zero_le _⟩) ((e_lst (ds := []) ht a_nil (Nat.zero_le _)).weak fun d s _ ⟨n, e, h1, h2, _⟩ => ⟨n, e, h1, h2, Nat.zero_le _⟩) mono_ls fun d e s l ⟨a, e1, h1, _⟩ ⟨b, e2, h2, _⟩ P p => ?_)
  subst e1 e2
  exact ne_empty h1 h2 (p.done rfl)
end
/-- a row of the kind, bounded -/
def Rw (o : List Int) (b : Nat) (ns : List Int) : Prop := ns.length = o.length ∧ ∀ x ∈ ns, Sml b x
theorem lap_head (n : Nat) (g : Int) (hg : Sml 134 g) {o : List Int} {w : List (List (Int × Int))} (dk : Drawn 200 4 o w) {env : Ev} {st : Sto} (td : Tid st n) (h0 : env[0]? = some (some (.ref n))) (h2 : env[2]? = some (some (kD o w))) (h3 : env[3]? = some (some (.int g))) (hl : env.length = 23) :
    Evl (some n) (wLc [7] (wRange1 (wCons (wC (.int 3)) wNil)) (gNm 7) wYes (wCall (on1 rTupleOf) (wCons (wLc [8, 9] (wZip (wCons (wDef 2 sp__law_drawn_row (wCons (wVar 0) (wCons (wVar 2) wNil))) (wCons (wBin rIdx (wVar 2) (wC (.int 0))) wNil))) (gTp 2 (gsCons (gNm 8) (gsCons (gNm 9) gsNil))) wYes (wBin rAdd (wVar 8) (wBin rMul (wVar 3) (wVar 9)))) wNil))) env st
      (fun d s => ∃ m one two three, d = .ref m ∧ s[m]? = some (.lst [tI one, tI two, tI three]) ∧ Rw o 141 one ∧ Rw o 141 two ∧ Rw o 141 three) := by
  have hlt : ∀ i, some n = some i → i < st.length := fun i e => by cases e; obtain ⟨_, _, h, _⟩ := td; exact lt_of_get h
  refine (e_lcS (t := some n) (fun _ d => ∃ ns, d = tI ns ∧ Rw o 141 ns) hlt (i_rng1 (n := 3) e_c (by decide)) (by simp) fun x hx s l P p => ?_).weak fun d s l ⟨m, ys, e, hm, _, _, f⟩ => ?_
  · have td' := l.td n rfl td
    have hlt' : ∀ i, some n = some i → i < s.length := fun i e => by cases e; obtain ⟨_, _, h, _⟩ := td'; exact lt_of_get h
    refine g1 (p _ ?_)
    have e0 : ((wipeE env [7]).set 7 (some x))[0]? = some (some (.ref n)) := by simp [wipeE, h0]
    have e2 : ((wipeE env [7]).set 7 (some x))[2]? = some (some (kD o w)) := by simp [wipeE, h2]
    have e3 : ((wipeE env [7]).set 7 (some x))[3]? = some (some (.int g)) := by simp [wipeE, h3]
    have el : ((wipeE env [7]).set 7 (some x)).length = 23 := by simp [wipeE, hl]
    generalize (wipeE env [7]).set 7 (some x) = env1 at e0 e2 e3 el ⊢
    refine e_tupLV (Q := Rw o 141) (e_zipBind (V := RowV o.length 10) (e_def2 (e_var e0) (e_var e2) fun s' l' P p => ⟨n, o, w, rfl, dk.k.n10, fun y hy => ⟨dk.k.two y hy, dk.x y hy⟩, l'.td n rfl td', p⟩) fun d s2 l2 ⟨ns, e, hn, hs⟩ => ?_)
    subst e
    refine (e_zipF (t := some n) (fun a b => a + g * b) (fun i e => by have := hlt' i e; have := l2.len; omega) (Evl.sqT e_c) (Evl.sqT (xs := inz o) (e_idx (n := 0) (xs := [tI o, wsD w]) (e_var e2) e_c rfl)) (by have := dk.k.n10; omega) fun a b ha hb s3 l3 => e_add (e_var ?_) (e_mul (e_var ?_) (e_var ?_) (hg.cm (dk.k.so hb)))).weak fun d s3 _ ⟨m, e, h1, h2, h3⟩ => ⟨_, ⟨?_, ?_⟩, m, e, h1, h2, Nat.zero_le _⟩
    · rw [List.getElem?_set_ne (by decide), List.getElem?_set_self (by simp [wipeE, el])]
    · rw [List.getElem?_set_ne (by decide), List.getElem?_set_ne (by decide)]; simp [wipeE, e3]
    · rw [List.getElem?_set_self (by simp [wipeE, el])]
    · simp [hn]
    · refine zipWith_mem fun a b ha hb => ?_
      have hb16 : Sml 5 b := by have := dk.x b hb; have := dk.k.two b hb; unfold Sml; show _ < 32; omega
      exact (Sml.add ((hs a ha).mono (by decide : 10 ≤ 140)) ((hg.mul hb16).mono (by decide)))
  · cases f with
    | cons a f => cases f with
      | cons b f => cases f with
        | cons c f =>
          cases f
          obtain ⟨one, rfl, h1⟩ := a
          obtain ⟨two, rfl, h2⟩ := b
          obtain ⟨three, rfl, h3⟩ := c
          exact ⟨m, one, two, three, e, hm, h1, h2, h3⟩
end K11

set_option Elab.async false
set_option linter.all false
set_option maxRecDepth 100000
set_option maxHeartbeats 4000000
/-! k11, part u: the end of _law_right. -/
namespace K11
open PySem PySem.Spec PyProof.Rows L2 DX
def tailW : WS := (wSeq (wIfS (wOrT (wTb (wBin rNe (wLc [7] (wIter (wDef 1 sp_all_rows (wCons (wVar 20) wNil))) (gNm 7) wYes (wDef 2 sp_worth (wCons (wVar 20) (wCons (wVar 7) wNil)))) (wLst (wCons (wTup (wCons (wC (.int 0)) (wCons (wC (.int 1)) wNil))) (wCons (wTup (wCons (wC (.int 1)) (wCons (wC (.int 8)) wNil))) (wCons (wTup (wCons (wC (.int 1)) (wCons (wC (.int 2)) wNil))) (wCons (wTup (wCons (wC (.int 1)) (wCons (wC (.int 8)) wNil))) wNil))))))) (wTb (wBin rNe (wLc [7] (wIter (wDef 1 sp_all_rows (wCons (wVar 21) wNil))) (gNm 7) wYes (wDef 2 sp_worth (wCons (wVar 21) (wCons (wVar 7) wNil)))) (wLst (wCons (wTup (wCons (wC (.int 0)) (wCons (wC (.int 1)) wNil))) (wCons (wTup (wCons (wC (.int 1)) (wCons (wC (.int 2)) wNil))) (wCons (wTup (wCons (wC (.int 1)) (wCons (wC (.int 2)) wNil))) (wCons (wTup (wCons (wC (.int 1)) (wCons (wC (.int 2)) wNil))) wNil)))))))) (wRet (wC (.bl false))) wNext)
  (wSeq (wAsg (wTup (wCons (wTup (wCons (wC (.int 6)) wNil)) (wCons (wTup (wCons (wTup (wCons (wTup (wCons (wC (.int 1)) (wCons (wC (.int 12)) wNil))) wNil)) wNil)) wNil))) (gNm 22))
  (wSeq (wAsg (wTup (wCons (wDef 2 sp_worth (wCons (wVar 20) (wCons (wTup (wCons (wC (.int 3)) wNil)) wNil))) (wCons (wDef 3 sp_pairing (wCons (wVar 20) (wCons (wTup (wCons (wC (.int 1)) wNil)) (wCons (wTup (wCons (wC (.int 1)) wNil)) wNil)))) (wCons (wDef 2 sp_order (wCons (wVar 20) (wCons (wTup (wCons (wC (.int 2)) wNil)) wNil))) (wCons (wDef 2 sp_worth (wCons (wVar 22) (wCons (wTup (wCons (wUn rNeg (wC (.int 5))) wNil)) wNil))) (wCons (wDef 2 sp_order (wCons (wVar 22) (wCons (wTup (wCons (wC (.int 4)) wNil)) wNil))) (wCons (wDef 3 sp_pairing (wCons (wVar 22) (wCons (wTup (wCons (wC (.int 2)) wNil)) (wCons (wTup (wCons (wC (.int 5)) wNil)) wNil)))) (wCons (wDef 2 sp_order (wCons (wTup (wCons (wTup wNil) (wCons (wTup wNil) wNil))) (wCons (wTup wNil) wNil))) wNil)))))))) (gNm 11))
  (wRet (wDef 2 (sp__law_like 5) (wCons (wVar 11) (wCons (wTup (wCons (wTup (wCons (wC (.int 1)) (wCons (wC (.int 8)) wNil))) (wCons (wTup (wCons (wC (.int 1)) (wCons (wC (.int 4)) wNil))) (wCons (wC (.int 2)) (wCons (wTup (wCons (wC (.int 1)) (wCons (wC (.int 12)) wNil))) (wCons (wC (.int 3)) (wCons (wTup (wCons (wC (.int 2)) (wCons (wC (.int 3)) wNil))) (wCons (wC (.int 1)) wNil)))))))) wNil)))))))
theorem K4 : Kind [4] [[(1, 8)]] := Kind.nil.snoc (x := 4) (told := [(1, 8)]) (by decide) (by decide) (by decide) (by decide) (by decide) (fun p hp => by simp at hp; subst hp; exact ⟨by decide, by decide, by decide, by decide⟩) (fun p hp => by simp at hp; subst hp; exact ⟨by decide, by decide⟩) (fun j p y _ h => by simp at h)
theorem K6 : Kind [6] [[(1, 12)]] := Kind.nil.snoc (x := 6) (told := [(1, 12)]) (by decide) (by decide) (by decide) (by decide) (by decide) (fun p hp => by simp at hp; subst hp; exact ⟨by decide, by decide, by decide, by decide⟩) (fun p hp => by simp at hp; subst hp; exact ⟨by decide, by decide⟩) (fun j p y _ h => by simp at h)
theorem K2 : Kind [2] [[(1, 2)]] := Kind.nil.snoc (x := 2) (told := [(1, 2)]) (by decide) (by decide) (by decide) (by decide) (by decide) (fun p hp => by simp at hp; subst hp; exact ⟨by decide, by decide, by decide, by decide⟩) (fun p hp => by simp at hp; subst hp; exact ⟨by decide, by decide⟩) (fun j p y _ h => by simp at h)
theorem K22 : Kind [2, 2] [[(1, 2)], [(1, 2), (1, 2)]] := K2.snoc (x := 2) (told := [(1, 2), (1, 2)]) (by decide) (by decide) (by decide) (by decide) (by decide) (fun p hp => by simp at hp; subst hp; exact ⟨by decide, by decide, by decide, by decide⟩) (fun p hp => by simp at hp; subst hp; exact ⟨by decide, by decide⟩) (fun j p y h1 h => by
  cases j with
  | zero => simp at h h1; subst h h1; exact ⟨by decide, by decide⟩
  | succ j => simp at h)
def unI : List D → List Int
  | .int i :: r => i :: unI r
  | _ => []
theorem unI_inz : ∀ ns : List Int, unI (inz ns) = ns
  | [] => rfl
  | n :: ns => by show n :: unI (inz ns) = _; rw [unI_inz ns]
theorem w4 : ((rowsL [4]).map tI).map (fun d => match d with | .tup ys => wfr [[(1, 8)]] (unI ys) | _ => .non) = [fr2 0 1, fr2 1 8, fr2 1 2, fr2 1 8] := by kernel_rfl
theorem w22 : ((rowsL [2, 2]).map tI).map (fun d => match d with | .tup ys => wfr [[(1, 2)], [(1, 2), (1, 2)]] (unI ys) | _ => .non) = [fr2 0 1, fr2 1 2, fr2 1 2, fr2 1 2] := by kernel_rfl
theorem v1 : wfr [[(1, 8)]] [3] = fr2 1 8 := by kernel_rfl
theorem v2 : bfr [[(1, 8)]] [1] [1] = fr2 1 4 := by kernel_rfl
theorem v3 : orderL [4] [2] = 2 := by kernel_rfl
theorem v4 : wfr [[(1, 12)]] [-5] = fr2 1 12 := by kernel_rfl
theorem v5 : orderL [6] [4] = 3 := by kernel_rfl
theorem v6 : bfr [[(1, 12)]] [2] [5] = fr2 2 3 := by kernel_rfl
theorem v7 : orderL [] [] = 1 := by kernel_rfl
section
variable {t : Option Nat} {env : Ev} {st : Sto}
/-- two lists with the same plain pairs -/
theorem ne_same {s : Sto} {a b : Nat} {xs : List D} {ps : List PyData} {P : DP} (ha : s[a]? = some (.lst xs)) (hb : s[b]? = some (.lst xs)) (hx : allP (toP s 15) xs = some ps) (h1 : SeqAt.shaped (.list ps) = true) (h2 : PyData.eqv (.list ps) (.list ps) = true) (p : P (.bl false) s) : rNe (.ref a) (.ref b) s P := by
  have e1 : toP s 16 (.ref a) = some (.list ps) := by
    show (match s[a]? with | some (.lst xs) => (allP (toP s 15) xs).map PyData.list | _ => none) = _
    rw [ha]; show (allP (toP s 15) xs).map PyData.list = _; rw [hx]; rfl
  have e2 : toP s 16 (.ref b) = some (.list ps) := by
    show (match s[b]? with | some (.lst xs) => (allP (toP s 15) xs).map PyData.list | _ => none) = _
    rw [hb]; show (allP (toP s 15) xs).map PyData.list = _; rw [hx]; rfl
  refine ⟨_, _, e1, e2, h1, h1, ?_⟩
  rw [h2]; exact p
theorem rows_ne {i : Nat} {o : List Int} {w : List (List (Int × Int))} {wl : WA} {ys : List D} {ps : List PyData} (ht : ∀ j, t = some j → j < st.length) (k : Kind o w) (hi : env[i]? = some (some (kD o w))) (hi7 : i ≠ 7) (hl : env.length = 23) (hk : ∀ c, c ≤ o.length → (rowsL (o.take c)).length ≤ 1000)
    (hr : ∀ r ∈ rowsL o, r.length = w.length ∧ ∀ x ∈ r, x.natAbs < 8) (hz : (rowsL o).length ≤ 1000) (he : ((rowsL o).map tI).map (fun d => match d with | .tup ys => wfr w (unI ys) | _ => .non) = ys) (hw : EvA t wl env st (ys.map Is)) (hy : ys.length ≤ 1000) (hp : ∀ s, allP (toP s 15) ys = some ps) (h1 : SeqAt.shaped (.list ps) = true) (h2 : PyData.eqv (.list ps) (.list ps) = true) :
    EvB t (wTb (wBin rNe (wLc [7] (wIter (wDef 1 sp_all_rows (wCons (wVar i) wNil))) (gNm 7) wYes (wDef 2 sp_worth (wCons (wVar i) (wCons (wVar 7) wNil)))) (wLst wl))) env st false := by
  have hA := e_lc (t := t) (own := [7]) (wi := wIter (wDef 1 sp_all_rows (wCons (wVar i) wNil))) (g := gNm 7) (we := wDef 2 sp_worth (wCons (wVar i) (wCons (wVar 7) wNil))) (env := env) (st := st) (xs := (rowsL o).map tI) (fun d => match d with | .tup ys => wfr w (unI ys) | _ => .non) ht
    (i_tup (e_def1 (e_var hi) fun s _ P p => ⟨o, w, rfl, k, hk, Ret.evp p⟩)) (by simp; omega) fun x hx s l P p => by
      obtain ⟨r, hrr, rfl⟩ := List.mem_map.mp hx
      obtain ⟨r1, r2⟩ := hr r hrr
      refine g1 (p _ ?_)
      show Evl t _ _ s (Is (wfr w (unI (inz r))))
      rw [unI_inz]
      refine x_worth k r1 (fun x hx => by unfold Sml; exact Nat.lt_of_lt_of_le (show _ < 2 ^ 3 from r2 x hx) (Nat.pow_le_pow_right (by decide) (by decide))) (e_var ?_) (e_var ?_)
      · rw [List.getElem?_set_ne (Ne.symm hi7)]
        show (env.set 7 none)[i]? = _
        rw [List.getElem?_set_ne (Ne.symm hi7)]; exact hi
      · rw [List.getElem?_set_self (by show 7 < (env.set 7 none).length; simp [hl])]
  rw [he] at hA
  refine b_tb (e_binV (Va := Ls t 0 ys) (Vb := Ls t 0 ys) (hA.weak fun d s _ ⟨n, e, h1, h2, _⟩ => ⟨n, e, h1, h2, Nat.zero_le _⟩) ((e_lst ht hw hy).weak fun d s _ ⟨n, e, h1, h2, _⟩ => ⟨n, e, h1, h2, Nat.zero_le _⟩) mono_ls fun d e s l ⟨a, e1, g1, _⟩ ⟨b, e2, g2, _⟩ P p => ?_)
  subst e1 e2
  exact ne_same g1 g2 (hp s) h1 h2 (p.done rfl)
theorem sm3 {b : Nat} (h : 5 ≤ b) {x : Int} (hx : x.natAbs < 32) : Sml b x := by unfold Sml; exact Nat.lt_of_lt_of_le (show _ < 2 ^ 5 from hx) (Nat.pow_le_pow_right (by decide) h)
theorem pr {a b : Int} {wa wb : W} (h1 : Evl t wa env st (Is (.int a))) (h2 : Evl t wb env st (Is (.int b))) : Evl t (wTup (wCons wa (wCons wb wNil))) env st (Is (fr2 a b)) := e_tup (ds := [.int a, .int b]) (a_is h1 (a_is h2 a_nil)) (Nat.le_of_ble_eq_true rfl)
theorem r1 {a : Int} {wa : W} (h1 : Evl t wa env st (Is (.int a))) : Evl t (wTup (wCons wa wNil)) env st (Is (tI [a])) := e_tup (ds := [.int a]) (a_is h1 a_nil) (Nat.le_of_ble_eq_true rfl)
theorem tail_ok {E : En} {x0 x1 x2 x3 x4 x5 x6 x7 x8 x9 x10 x11 x12 x13 x14 x15 x16 x17 x18 x19 x22 : Option D} (ht : ∀ j, t = some j → j < st.length) (hE : ∀ s', Le t st s' → E.rt (.bl true) s') :
    tailW E [x0, x1, x2, x3, x4, x5, x6, x7, x8, x9, x10, x11, x12, x13, x14, x15, x16, x17, x18, x19, some (kD [4] [[(1, 8)]]), some (kD [2, 2] [[(1, 2)], [(1, 2), (1, 2)]]), x22] st := by
  unfold tailW
  refine q_no (t := t) (u := wNext) (b_or (b := false) (c := false) (rows_ne (i := 20) ht K4 rfl (by decide) rfl (fun c hc => by
      have : c = 0 ∨ c = 1 := by simp at hc; omega
      rcases this with rfl | rfl <;> decide) (by decide) (by decide) w4 (a_is (pr e_c e_c) (a_is (pr e_c e_c) (a_is (pr e_c e_c) (a_is (pr e_c e_c) a_nil)))) (by decide) (fun s => rfl) rfl rfl) fun _ =>
    rows_ne (i := 21) ht K22 rfl (by decide) rfl (fun c hc => by
      have : c = 0 ∨ c = 1 ∨ c = 2 := by simp at hc; omega
      rcases this with rfl | rfl | rfl <;> decide) (by decide) (by decide) w22 (a_is (pr e_c e_c) (a_is (pr e_c e_c) (a_is (pr e_c e_c) (a_is (pr e_c e_c) a_nil)))) (by decide) (fun s => rfl) rfl rfl) fun s1 l1 => ?_
  refine q_asgI (t := t) (a := kD [6] [[(1, 12)]]) (e_tup (ds := [tI [6], wsD [[(1, 12)]]]) (a_is (r1 e_c) (a_is (e_tup (ds := [toldD [(1, 12)]]) (a_is (e_tup (ds := [fr2 1 12]) (a_is (pr e_c e_c) a_nil) (Nat.le_of_ble_eq_true rfl)) a_nil) (Nat.le_of_ble_eq_true rfl)) a_nil)) (Nat.le_of_ble_eq_true rfl)) fun s2 l2 => ?_
  have b : ∀ (y : Int), y.natAbs < 32 → ∀ x ∈ [y], Sml 400 x := fun y hy x hx => by simp at hx; subst hx; exact sm3 (by decide) hy
  refine q_asgI (t := t) (a := .tup [fr2 1 8, fr2 1 4, .int 2, fr2 1 12, .int 3, fr2 2 3, .int 1]) (e_tup (ds := [fr2 1 8, fr2 1 4, .int 2, fr2 1 12, .int 3, fr2 2 3, .int 1]) (a_is (v1.cast (x_worth K4 rfl (b 3 (by decide)) (e_var rfl) (r1 e_c))) (a_is (v2.cast (x_pairing K4 rfl rfl (b 1 (by decide)) (b 1 (by decide)) (e_var rfl) (r1 e_c) (r1 e_c)))
    (a_is ((congrArg D.int v3).cast (x_order K4 rfl (e_var rfl) (r1 e_c))) (a_is (v4.cast (x_worth K6 rfl (b (-5) (by decide)) (e_var rfl) (r1 (e_neg e_c)))) (a_is ((congrArg D.int v5).cast (x_order K6 rfl (e_var rfl) (r1 e_c))) (a_is (v6.cast (x_pairing K6 rfl rfl (b 2 (by decide)) (b 5 (by decide)) (e_var rfl) (r1 e_c) (r1 e_c)))
    (a_is ((congrArg D.int v7).cast (x_order (o := []) (w := []) (ns := []) Kind.nil rfl (e_tup (ds := [.tup [], .tup []]) (a_is (e_tup (ds := []) a_nil (Nat.zero_le _)) (a_is (e_tup (ds := []) a_nil (Nat.zero_le _)) a_nil)) (Nat.le_of_ble_eq_true rfl)) (e_tup (ds := []) a_nil (Nat.zero_le _)))) a_nil))))))) (Nat.le_of_ble_eq_true rfl)) fun s3 l3 => ?_
  exact q_retI (t := t) (x_like (e_var rfl) (e_tup (ds := [fr2 1 8, fr2 1 4, .int 2, fr2 1 12, .int 3, fr2 2 3, .int 1]) (a_is (pr e_c e_c) (a_is (pr e_c e_c) (a_is e_c (a_is (pr e_c e_c) (a_is e_c (a_is (pr e_c e_c) (a_is e_c a_nil))))))) (Nat.le_of_ble_eq_true rfl)) rfl) fun s4 l4 => hE s4 (((l1.trans l2).trans l3).trans l4)
end
end K11

set_option Elab.async false
set_option linter.all false
set_option maxRecDepth 100000
set_option maxHeartbeats 4000000
/-! k11, part t: _law_right. -/
namespace K11
open PySem PySem.Spec PyProof.Rows L2 DX
def sp__law_right : DSp := fun ds st P => ∃ n : Nat, ds = [.ref n] ∧ Tid st n ∧ EvP (some n) st (Is (.bl true)) P
theorem Rw.mono {o : List Int} {a b : Nat} {ns : List Int} (h : Rw o a ns) (k : a ≤ b) : ∀ x ∈ ns, Sml b x := fun x hx => (h.2 x hx).mono k
theorem plain_sml {o ns : List Int} (h2 : ∀ x ∈ o, 2 ≤ x ∧ x ≤ 16) : ∀ x ∈ plainL o ns, Sml 5 x := zipWith_mem fun a b _ hb => by
  obtain ⟨b2, b16⟩ := h2 b hb
  have h1 := Int.emod_nonneg a (show b ≠ 0 by omega)
  have h3 := Int.emod_lt_of_pos a (show 0 < b by omega)
  unfold Sml; show _ < 32; omega
theorem ok__law_right (ds : List D) (st : Sto) (P : DP) (h : sp__law_right ds st P) : w__law_right sp__law_drawn_kind sp__law_one sp__law_drawn_row sp__law_plain sp_order sp_worth sp_plain (sp__law_like 5) sp__law_worth sp__law_order sp_is_kind sp__law_pairing sp_pairing sp__law_times sp__law_put sp__law_added sp_beside sp_all_rows (En0 P) (startE 23 ds) st := by
  obtain ⟨n, rfl, td, h⟩ := h
  refine for_inv (t := some n) (i_rng1 (n := 12) e_c (by decide)) (fun r env1 s => ∃ x1 x2 x3 x4 x5 x6 x7 x8 x9 x10 x11 x12 x13 x14 x15 x16 x17 x18 x19 x20 x21 x22 : Option D, env1 = [some (.ref n), x1, x2, x3, x4, x5, x6, x7, x8, x9, x10, x11, x12, x13, x14, x15, x16, x17, x18, x19, x20, x21, x22]) (fun _ _ => ⟨none, none, none, none, none, none, none, none, none, none, none, none, none, none, none, none, none, none, none, none, none, none, rfl⟩) ?_ ?_
  · rintro x r env1 s ls ⟨x1, x2, x3, x4, x5, x6, x7, x8, x9, x10, x11, x12, x13, x14, x15, x16, x17, x18, x19, x20, x21, x22, rfl⟩ Nx hN
    have td0 := ls.td n rfl td
    refine g1 (q_asg (t := some n) (e_def3 (a := .ref n) (b := .int 200) (c := .int 4) (e_var rfl) e_c e_c fun s l P p => ⟨n, 4, 200, rfl, by decide, by decide, by decide, l.td n rfl td0, p⟩) fun d s1 l1 hd => ?_)
    obtain ⟨o, w, rfl, dk⟩ := hd
    have k := dk.k
    have td1 := l1.td n rfl td0
    have o16 : ∀ y ∈ o, 2 ≤ y ∧ y ≤ 16 := fun y hy => ⟨k.two y hy, dk.x y hy⟩
    have o24 : ∀ y ∈ o, 2 ≤ y ∧ y ≤ 1024 := fun y hy => ⟨k.two y hy, k.hi y hy⟩
    obtain ⟨L0, L1, _⟩ := k.lev_facts
    have L3 : Sml 3000 (lev w) := L1.mono (by decide)
    refine q_asg (t := some n) (e_one (i := 0) (xs := [.int 0, .int 0, .int ((10 : Int) ^ 40)]) rfl td1 (e_tup (ds := [.int 0, .int 0, .int ((10 : Int) ^ 40)]) (a_is e_c (a_is e_c (a_is (e_pow (n := 40) e_c e_c (by decide) (by decide)) a_nil))) (Nat.le_of_ble_eq_true rfl)) (by decide) (by decide)) fun d s2 l2 hd => ?_
    obtain ⟨g, rfl, hg⟩ : ∃ g : Int, d = .int g ∧ Sml 134 g := by
      have hd : d ∈ [D.int 0, .int 0, .int ((10 : Int) ^ 40)] := hd
      simp only [List.mem_cons, List.not_mem_nil, or_false] at hd
      rcases hd with rfl | rfl | rfl <;> exact ⟨_, rfl, by unfold Sml; decide⟩
    have td2 := l2.td n rfl td1
    have hh := lap_head n g hg dk (env := [some (.ref n), some x, some (kD o w), some (.int g), x4, x5, x6, x7, x8, x9, x10, x11, x12, x13, x14, x15, x16, x17, x18, x19, x20, x21, x22]) td2 rfl rfl rfl rfl
    refine q_asgV hh fun d s3 l3 hd => ?_
    obtain ⟨m, one, two, three, rfl, hm, r1, r2, r3⟩ := hd
    refine g3 hm ?_
    have td3 := l3.td n rfl td2
    have h1o := r1.1
    have h2o := r2.1
    have h3o := r3.1
    have h1w : one.length = w.length := by rw [h1o, k.len]
    have h2w : two.length = w.length := by rw [h2o, k.len]
    have h3w : three.length = w.length := by rw [h3o, k.len]
    have b1 := r1.mono (show 141 ≤ 400 by decide)
    have b2 := r2.mono (show 141 ≤ 400 by decide)
    have b3 := r3.mono (show 141 ≤ 400 by decide)
    have lo : (plainL o one).length = o.length := plain_len h1o
    have low : (plainL o one).length = w.length := by rw [lo, k.len]
    have lo2 : (plainL o two).length = w.length := by rw [plain_len h2o, k.len]
    have pl1 : ∀ x ∈ plainL o one, Sml 400 x := fun x hx => (plain_sml o16 x hx).mono (by decide)
    have pl2 : ∀ x ∈ plainL o two, Sml 400 x := fun x hx => (plain_sml o16 x hx).mono (by decide)
    have pl1k : ∀ x ∈ plainL o one, Sml 1000 x := fun x hx => (plain_sml o16 x hx).mono (by decide)
    have wl := k.wl
    have on := k.n10
    dsimp only
    refine q_asgI (t := some n) (x_lplain (w := w) k.n10 k.two (e_var rfl) (e_var rfl)) fun s4 l4 => ?_
    -- told
    refine q_asgI (t := some n) (e_tup (ds := [_, _, _, _, _, _]) (a_is (x_plain k h1o (e_var rfl) (e_var rfl)) (a_is (e_defK (ds := [tI one, kD o w]) (V := Is (tI (plainL o one))) (a_is (e_var rfl) (a_is (e_var rfl) a_nil)) rfl rfl fun s _ P p => ⟨o, w, one, rfl, k, h1o, Ret.evp p⟩)
      (a_is (x_worth k h1w b1 (e_var rfl) (e_var rfl)) (a_is (e_defK (ds := [tI (plainL o one), kD o w]) (V := Is (wfr w (plainL o one))) (a_is (e_var rfl) (a_is (e_var rfl) a_nil)) rfl rfl fun s _ P p => ⟨o, w, plainL o one, rfl, k, low, pl1, Ret.evp p⟩)
      (a_is (x_order k h1o (e_var rfl) (e_var rfl)) (a_is (e_defK (ds := [tI (plainL o one), kD o w]) (V := Is (.int (orderL o (plainL o one)))) (a_is (e_var rfl) (a_is (e_var rfl) a_nil)) rfl rfl fun s _ P p => ⟨o, w, plainL o one, rfl, k, lo, Ret.evp p⟩) a_nil)))))) (Nat.le_of_ble_eq_true rfl)) fun s5 l5 => ?_
    rw [E1 k h1w, E2 (w := w) (one := plainL o one), E3 k k.two]
    refine q_no (t := some n) (u := wNext) (b_or (b := false) (c := false) (x_nolike (e_var rfl) (e_addT (e_addT (e_tup (ds := [_, _]) (a_is (e_var rfl) (a_is (e_var rfl) a_nil)) (Nat.le_of_ble_eq_true rfl)) (x_rep (n := 2) (x_lworth k low pl1k (e_var rfl) (e_var rfl)) (by decide)) (by simp)) (x_rep (n := 2) (x_lorder on o24 pl1k (e_var rfl) (e_var rfl)) (by decide)) (by simp))
      (okD_tup (m := 4) (by simp) fun d hd => ?_)) fun _ => b_tb (e_bin (r := isD true) (a := .bl true) (b := .bl true) (e_def1 (e_var rfl) fun s _ P p => ⟨o, w, rfl, k, Ret.evp p⟩) e_c fun s P p => p)) fun s6 l6 => ?_
    · have hd : d ∈ [tI (plainL o one), tI (plainL o one), cf (Tq w (rf (plainL o one)) w.length) (lev w), cf (Tq w (rf (plainL o one)) w.length) (lev w), .int (orderL o (plainL o one)), .int (orderL o (plainL o one))] := hd
      simp only [List.mem_cons, List.not_mem_nil, or_false] at hd
      rcases hd with rfl | rfl | rfl | rfl | rfl | rfl <;> first | exact okD_tI (by omega) | exact okD_cf | rfl
    -- due
    dsimp only
    refine q_asgI (t := some n) (x_lpairing k low lo2 pl1 pl2 (e_var rfl) (e_var rfl) (x_lplain (w := w) k.n10 k.two (e_var rfl) (e_var rfl))) fun s7 l7 => ?_
    refine q_no (t := some n) (u := wNext) (x_nolike (e_tup (ds := [_, _, _]) (a_is ((E4a k h1w h2w).cast (x_pairing k h1w h2w b1 b2 (e_var rfl) (e_var rfl) (e_var rfl))) (a_is ((E4b k h1w h2w).cast (x_pairing k h2w h1w b2 b1 (e_var rfl) (e_var rfl) (e_var rfl)))
      (a_is ((E4c k h1w h2w).cast (e_defK (ds := [tI two, tI (plainL o one), kD o w]) (V := Is (bfr w (plainL o one) two)) (a_is (e_var rfl) (a_is (e_var rfl) (a_is (e_var rfl) a_nil))) rfl rfl fun s _ P p => ⟨o, w, plainL o one, two, rfl, k, low, h2w, pl1, b2, Ret.evp p⟩)) a_nil))) (Nat.le_of_ble_eq_true rfl))
      (x_rep (n := 3) (e_var rfl) (by decide)) (okD_tup (m := 4) (by simp) fun d hd => ?_)) fun s8 l8 => ?_
    · simp only [List.mem_cons, List.not_mem_nil, or_false] at hd
      rcases hd with rfl | rfl | rfl <;> exact okD_cf
    dsimp only
    refine q_no (t := some n) (u := wNext) (x_nolike (E5.cast (x_pairing k h1w h1w b1 b1 (e_var rfl) (e_var rfl) (e_var rfl))) (x_times L0 L3 (by unfold Sml; exact Nat.lt_of_lt_of_le (show _ < 2 ^ 2 by decide) (Nat.pow_le_pow_right (by decide) (by decide))) (wfr_cf.cast (x_worth k h1w b1 (e_var rfl) (e_var rfl))) e_c) okD_cf) fun s9 l9 => ?_
    -- by
    have l09 := ((((((l4.trans l5).trans l6).trans l7).trans l8).trans l9))
    have td9 := l09.td n rfl td3
    dsimp only
    refine q_asg (t := some n) (e_one (i := 0) (xs := inz [0, 1, -1, 2, 3, 7, (10 : Int) ^ 12]) rfl td9 (e_tup (ds := inz [0, 1, -1, 2, 3, 7, (10 : Int) ^ 12]) (a_is e_c (a_is e_c (a_is (e_neg e_c) (a_is e_c (a_is e_c (a_is e_c (a_is (e_pow (n := 12) e_c e_c (by decide) (by decide)) a_nil))))))) (Nat.le_of_ble_eq_true rfl)) (by decide) (by decide)) fun d s10 l10 hd => ?_
    obtain ⟨b, rfl, hb⟩ : ∃ b : Int, d = .int b ∧ Sml 41 b := by
      obtain ⟨b, hb, rfl⟩ := List.mem_map.mp hd
      refine ⟨b, rfl, ?_⟩
      simp only [List.mem_cons, List.not_mem_nil, or_false] at hb
      rcases hb with rfl | rfl | rfl | rfl | rfl | rfl | rfl <;> (unfold Sml; decide)
    have td10 := l10.td n rfl td9
    have hb4 : Sml 400 b := hb.mono (by decide)
    have hlt10 : ∀ i, some n = some i → i < s10.length := fun i e => by cases e; obtain ⟨_, _, h, _⟩ := td10; exact lt_of_get h
    refine q_asgI (t := some n) (e_tupL (x_mulRow (c := 13) (b := b) (ns := one) hlt10 rfl rfl (by decide) rfl hb4 b1 (by omega))) fun s11 l11 => ?_
    have mw : (one.map fun x => b * x).length = w.length := by simpa using h1w
    have mb : ∀ x ∈ one.map fun x => b * x, Sml 400 x := fun x hx => by
      obtain ⟨y, hy, rfl⟩ := List.mem_map.mp hx
      exact (hb.mul (r1.2 y hy)).mono (by decide)
    refine q_no (t := some n) (u := wNext) (x_nolike (e_tup (ds := [_, _]) (a_is ((E6a k b h1w).cast (x_worth k mw mb (e_var rfl) (e_var rfl))) (a_is ((E6b k b h1w h2w).cast (x_pairing k mw h2w mb b2 (e_var rfl) (e_var rfl) (e_var rfl))) a_nil)) (Nat.le_of_ble_eq_true rfl))
      (e_tup (ds := [_, _]) (a_is (x_times L0 L3 ((hb.mul hb).mono (by decide)) (x_lworth k low pl1k (e_var rfl) (e_var rfl)) (e_mul (e_var rfl) (e_var rfl) (hb.cm hb))) (a_is (x_times L0 L3 (hb.mono (by decide)) (e_var rfl) (e_var rfl)) a_nil)) (Nat.le_of_ble_eq_true rfl)) (okD_tup (m := 4) (by simp) fun d hd => ?_)) fun s12 l12 => ?_
    · simp only [List.mem_cons, List.not_mem_nil, or_false] at hd
      rcases hd with rfl | rfl <;> exact okD_cf
    -- both
    dsimp only
    refine q_asgI (t := some n) (x_put (ns := two) (us := three) (b := b) (by omega) hb4 b3 (e_var rfl) (e_var rfl) (e_var rfl) (e_var rfl)) fun s13 l13 => ?_
    have pw : (putL b two three).length = w.length := by unfold putL; simp; omega
    have pb : ∀ x ∈ putL b two three, Sml 400 x := zipWith_mem fun x y hx hy => (Sml.add (a := 183) ((r2.2 x hx).mono (by decide)) ((hb.mul (r3.2 y hy)).mono (by decide))).mono (by decide)
    refine q_no (t := some n) (u := wNext) (x_nolike ((E7 k b h1w h2w h3w).cast (x_pairing k h1w pw b1 pb (e_var rfl) (e_var rfl) (e_var rfl))) (x_added L0 L3 (e_var rfl) (x_times L0 L3 (hb.mono (by decide)) (bfr_cf.cast (x_pairing k h1w h3w b1 b3 (e_var rfl) (e_var rfl) (e_var rfl))) (e_var rfl))) okD_cf) fun s14 l14 => ?_
    dsimp only
    have qw : (putL 1 one two).length = w.length := by unfold putL; simp; omega
    have qb : ∀ x ∈ putL 1 one two, Sml 400 x := zipWith_mem fun x y hx hy => (Sml.add (a := 145) ((r1.2 x hx).mono (by decide)) ((Sml.mul (a := 1) (show Sml 1 1 by unfold Sml; decide) (r2.2 y hy)).mono (by decide))).mono (by decide)
    refine q_no (t := some n) (u := wNext) (x_nolike ((E8 k h1w h2w).cast (x_worth k qw qb (e_var rfl) (x_put (ns := one) (us := two) (b := 1) (by omega) (by unfold Sml; exact Nat.lt_of_lt_of_le (show _ < 2 ^ 2 by decide) (Nat.pow_le_pow_right (by decide) (by decide))) b2 (e_var rfl) (e_var rfl) (e_var rfl) e_c))) (x_added L0 L3 (x_added L0 L3 (wfr_cf.cast (x_worth k h1w b1 (e_var rfl) (e_var rfl))) (wfr_cf.cast (x_worth k h2w b2 (e_var rfl) (e_var rfl)))) (e_var rfl)) okD_cf) fun s15 l15 => ?_
    -- often
    dsimp only
    refine q_asgI (t := some n) (x_order k h1o (e_var rfl) (e_var rfl)) fun s16 l16 => ?_
    obtain ⟨q0, _⟩ := order_pos (one := one) o24
    have l0_16 := (((((((l09.trans l10).trans l11).trans l12).trans l13).trans l14).trans l15).trans l16)
    have td16 := l0_16.td n rfl td3
    have hlt16 : ∀ i, some n = some i → i < s16.length := fun i e => by cases e; obtain ⟨_, _, h, _⟩ := td16; exact lt_of_get h
    have sq : Sml 400 (orderL o one) := by
      obtain ⟨_, q1⟩ := order_pos (one := one) o24
      refine q1.mono ?_
      simp only [List.length_zipWith]
      omega
    dsimp only
    refine q_no (t := some n) (u := wNext) (b_or (b := false) (c := false) (look1 (o := o) (w := w) (one := one) hlt16 rfl rfl rfl rfl sq b1 (by omega) on o24) fun _ => look2 (o := o) (w := w) (one := one) hlt16 rfl rfl rfl rfl sq b1 (by omega) on o24) fun s17 l17 => ?_
    have td17 := l17.td n rfl td16
    -- another kind beside
    dsimp only
    refine q_asg (t := some n) (e_def3 (a := .ref n) (b := .int 5) (c := .int 1) (e_var rfl) e_c e_c fun s l P p => ⟨n, 1, 5, rfl, by decide, by decide, by decide, l.td n rfl td17, p⟩) fun d s18 l18 hd => ?_
    obtain ⟨o', w', rfl, dk'⟩ := hd
    have k' := dk'.k
    have td18 := l18.td n rfl td17
    have hpp : o.foldl (· * ·) 1 * o'.foldl (· * ·) 1 ≤ 1024 := by
      have h1 := dk.p2
      have h2 := dk'.p2
      have h3 := dk.p1
      have h4 := dk'.p1
      have h5 : o.foldl (· * ·) 1 * o'.foldl (· * ·) 1 ≤ 200 * 5 := Int.mul_le_mul h1 h2 (by omega) (by decide)
      omega
    have kb : Kind (o ++ o') (besW o w w') := k.beside k' (by have := dk.n; have := dk'.n; omega) hpp
    have kwl := kb.len
    have bwl : (besW o w w').length = w.length + w'.length := by unfold besW; simp
    dsimp only
    refine q_parV (t := some n) (is := [19, 7]) (Vs := [Is (kD (o ++ o') (besW o w w')), RowV o'.length 10]) (a_is (e_def2 (a := kD o w) (b := kD o' w') (e_var rfl) (e_var rfl) fun s _ P p => ⟨o, o', w, w', rfl, k, k', hpp, by have := dk.p1; omega, by have := dk'.p1; omega, Ret.evp p⟩)
      (a_cons (e_def2 (a := .ref n) (b := kD o' w') (e_var rfl) (e_var rfl) fun s l P p => ⟨n, o', w', rfl, k'.n10, fun y hy => ⟨k'.two y hy, dk'.x y hy⟩, l.td n rfl td18, p⟩) a_nil mono_rowV)) rfl fun ds s19 l19 f => ?_
    cases f with
    | cons f1 f => cases f with
      | cons f2 f =>
        cases f; cases f1
        obtain ⟨row, rfl, hrl, hrs⟩ := f2
        have hrw : row.length = w'.length := by rw [hrl, k'.len]
        have aw : (one ++ row).length = (besW o w w').length := by rw [bwl, List.length_append, h1w, hrw]
        have ab : ∀ x ∈ one ++ row, Sml 400 x := fun x hx => by
          rcases List.mem_append.mp hx with h | h
          · exact b1 x h
          · exact (hrs x h).mono (by decide)
        have lr : (plainL o one ++ row).length = (o ++ o').length := by rw [List.length_append, List.length_append, lo, hrl]
        have lrk : ∀ x ∈ plainL o one ++ row, Sml 1000 x := fun x hx => by
          rcases List.mem_append.mp hx with h | h
          · exact pl1k x h
          · exact (hrs x h).mono (by decide)
        obtain ⟨B0, B1, _⟩ := kb.lev_facts
        have B3 : Sml 3000 (lev (besW o w w')) := B1.mono (by decide)
        have kbn := kb.n10
        have on' := k'.n10
        have eA : ∀ (a c : List Int), D.tup (inz a ++ inz c) = tI (a ++ c) := fun a c => by simp [inz]
        refine q_no (t := some n) (u := wNext) (x_nolike (e_tup (ds := [_, _]) (a_is ((E11 k k' kb h1w hrw).cast (x_worth kb aw ab (e_var rfl) ((eA one row).cast (e_addT (e_var rfl) (e_var rfl) (by simp; omega))))) (a_is (x_order kb lr (e_var rfl) ((eA (plainL o one) row).cast (e_addT (e_var rfl) (e_var rfl) (by simp; omega)))) a_nil)) (Nat.le_of_ble_eq_true rfl))
          (e_tup (ds := [_, _]) (a_is (x_added B0 B3 ((cf_lift L0 B0 lev_left).cast (x_lworth k low pl1k (e_var rfl) (e_var rfl))) ((cf_lift k'.lev_facts.1 B0 (lev_right k k' kb)).cast (x_lworth k' hrw (fun x hx => (hrs x hx).mono (by decide)) (e_var rfl) (e_var rfl)))) (a_is (x_lorder (w := besW o w w') kbn (fun x hx => ⟨kb.two x hx, kb.hi x hx⟩) lrk (e_var rfl) ((eA (plainL o one) row).cast (e_addT (e_var rfl) (e_var rfl) (by simp; omega)))) a_nil)) (Nat.le_of_ble_eq_true rfl)) (okD_tup (m := 4) (by simp) fun d hd => ?_)) fun s20 l20 => ?_
        · have hd : d ∈ [cf (Tq w (rf (plainL o one)) w.length * (lev (besW o w w') / lev w) + Tq w' (rf row) w'.length * (lev (besW o w w') / lev w')) (lev (besW o w w')), .int (orderL (o ++ o') (plainL o one ++ row))] := hd
          simp only [List.mem_cons, List.not_mem_nil, or_false] at hd
          rcases hd with rfl | rfl <;> first | exact okD_cf | rfl
        · refine hN _ _ (((((((((l1.trans l2).trans l3).trans l0_16).trans l17).trans l18).trans l19).trans l20))) ?_
          exact ⟨_, _, _, _, _, _, _, _, _, _, _, _, _, _, _, _, _, _, _, _, _, _, rfl⟩
  · rintro env1 s ls ⟨x1, x2, x3, x4, x5, x6, x7, x8, x9, x10, x11, x12, x13, x14, x15, x16, x17, x18, x19, x20, x21, x22, rfl⟩
    have kd4 : D.tup [.tup [.int 4], .tup [.tup [fr2 1 8]]] = kD [4] [[(1, 8)]] := rfl
    have td1 := ls.td n rfl td
    have hlt1 : ∀ i, some n = some i → i < s.length := fun i e => by cases e; obtain ⟨_, _, h, _⟩ := td1; exact lt_of_get h
    dsimp only
    refine q_asgG (t := some n) (a := .tup [kD [4] [[(1, 8)]], kD [2, 2] [[(1, 2)], [(1, 2), (1, 2)]]]) (e_tup (ds := [kD [4] [[(1, 8)]], kD [2, 2] [[(1, 2)], [(1, 2), (1, 2)]]]) (a_is (e_tup (ds := [tI [4], wsD [[(1, 8)]]]) (a_is (e_tup (ds := [.int 4]) (a_is e_c a_nil) (Nat.le_of_ble_eq_true rfl)) (a_is (e_tup (ds := [toldD [(1, 8)]]) (a_is (e_tup (ds := [fr2 1 8]) (a_is (e_tup (ds := [.int 1, .int 8]) (a_is e_c (a_is e_c a_nil)) (Nat.le_of_ble_eq_true rfl)) a_nil) (Nat.le_of_ble_eq_true rfl)) a_nil) (Nat.le_of_ble_eq_true rfl)) a_nil)) (Nat.le_of_ble_eq_true rfl))
      (a_is (e_tup (ds := [tI [2, 2], wsD [[(1, 2)], [(1, 2), (1, 2)]]]) (a_is (e_tup (ds := [.int 2, .int 2]) (a_is e_c (a_is e_c a_nil)) (Nat.le_of_ble_eq_true rfl)) (a_is (e_tup (ds := [toldD [(1, 2)], toldD [(1, 2), (1, 2)]]) (a_is (e_tup (ds := [fr2 1 2]) (a_is (e_tup (ds := [.int 1, .int 2]) (a_is e_c (a_is e_c a_nil)) (Nat.le_of_ble_eq_true rfl)) a_nil) (Nat.le_of_ble_eq_true rfl)) (a_is (e_tup (ds := [fr2 1 2, fr2 1 2]) (a_is (e_tup (ds := [.int 1, .int 2]) (a_is e_c (a_is e_c a_nil)) (Nat.le_of_ble_eq_true rfl)) (a_is (e_tup (ds := [.int 1, .int 2]) (a_is e_c (a_is e_c a_nil)) (Nat.le_of_ble_eq_true rfl)) a_nil)) (Nat.le_of_ble_eq_true rfl)) a_nil)) (Nat.le_of_ble_eq_true rfl)) a_nil)) (Nat.le_of_ble_eq_true rfl)) a_nil)) (Nat.le_of_ble_eq_true rfl)) fun s1 l1 => g2 ?_
    have td2 := l1.td n rfl td1
    exact tail_ok (t := some n) (E := En0 P) (fun i e => by cases e; obtain ⟨_, _, h, _⟩ := td2; exact lt_of_get h) fun s' l' => h _ s' ((ls.trans l1).trans l') rfl
end K11

set_option Elab.async false
set_option linter.all false
set_option maxRecDepth 100000
set_option maxHeartbeats 1000000
/-! k11, part v: law. -/
namespace K11
open PySem PySem.Spec PyProof.Rows L2 DX
def sp_law : DSp := fun ds st P => ∃ ns : List Int, ds = [.rol (inz ns)] ∧ ns.length ≤ 1000000 ∧ Ret st (.bl true) P
theorem ok_law (ds : List D) (st : Sto) (P : DP) (h : sp_law ds st P) : w_law sp__law_right sp__law_tide (En0 P) (startE 2 ds) st := by
  obtain ⟨ns, rfl, hl, h⟩ := h
  have len : ∀ {s : Sto} {env : Ev}, env[0]? = some (some (.rol (inz ns))) → Evl none (wCall (on1 rLen) (wCons (wVar 0) wNil)) env s (Is (.int ns.length)) := fun he => e_call1i (e_var he) fun s P p => ⟨inz ns, rfl, by simpa using p⟩
  obtain ⟨m, hm, hm3⟩ : ∃ m : Nat, max (2 : Int) (min (ns.length : Int) 3) = m ∧ m ≤ 3 := ⟨max 2 (min ns.length 3), by omega, by omega⟩
  refine p_retI (e_notIn (lo := st.length) (ds := ((List.range m).map fun (i : Nat) => D.int (i : Int)).map fun _ => .bl true) (e_lc (fun _ => .bl true) nofun (i_rng1 (n := m) (by rw [← hm]; exact e_max2 e_c (e_min2 (len rfl) e_c)) (by omega)) (by simp; omega) fun x hx s l P p => ?_) fun d hd => ?_) h
  · obtain ⟨i, hi, rfl⟩ := List.mem_map.mp hx
    have hi := List.mem_range.mp hi
    refine g1 (p _ fun st0 l0 P p => ?_)
    refine e_def2 (t := none) (st := st0) (sp := sp__law_tide) (a := .rol (inz ns)) (b := .int (i : Int)) (V := fun d s' => ∃ n, d = .ref n ∧ Tid s' n ∧ st0.length ≤ n) (e_var rfl) (e_var rfl) (fun s1 l1 P p => ?_) st0 .refl _ fun d s1 l1 ⟨n, e, td, hn⟩ => ?_
    · exact ⟨ns, i, rfl, hl, by omega, fun d s2 l2 ⟨n, e, td, hn⟩ => p d s2 l2 ⟨n, e, td, Nat.le_trans l1.len hn⟩⟩
    · subst e
      exact ⟨rfl, n, rfl, td, fun d s2 l2 v => p d s2 ⟨Nat.le_trans l1.len l2.len, fun j hj _ => (l2.eq j (Nat.lt_of_lt_of_le hj l1.len) (fun e => by cases e; omega)).trans (l1.eq j hj nofun), nofun⟩ v⟩
  · obtain ⟨_, _, rfl⟩ := List.mem_map.mp hd; rfl
end K11

set_option Elab.async false
set_option linter.all false
set_option maxRecDepth 100000
set_option maxHeartbeats 1000000
/-! DX, part w: the head's hook with one more look; facts by names. -/
namespace DX
open PySem PySem.Spec PyProof.Rows L2
abbrev AlX : Type := Bool × He.AlD
def obsX (ex : PySem.W.Frag → Bool) (fa : List He.Fa) (fn : List He.DefD) (K : PySem.W.Frag) : AlX := (ex K, He.obsD fa fn K)
def valX (fn : List He.DefD) : AlX := (true, He.valD fn)
def obsXG (n : Nat) (ex : PySem.W.Frag → Bool) (fa : List He.Fa) (fn : List He.DefD) (g : Addr → Option Obj) : AlX := obsX ex fa fn (He.frG g (He.asD g n))
def hookX (n : Nat) (ex : PySem.W.Frag → Bool) (fa : List He.Fa) (fn : List He.DefD) : PySem.W.Hook where
  α := AlX
  obs := fun s => obsXG n ex fa fn s.heap.get?
  val := fun _ => valX fn
  says := fun _ h => ∃ K : PySem.W.Frag, K.In h ∧ ex K = true ∧ He.SaysD fa fn K
  of := fun _ _ e => ⟨_, He.frG_in, congrArg (fun z : AlX => z.1) e, congrArg (fun z : AlX => z.2) e⟩
  keeps := fun _ _ _ ⟨K, hK, c1, c2⟩ k => ⟨K, PySem.W.Frag.In.keeps hK k, c1, c2⟩
theorem obsXG_eq {n : Nat} {ex : PySem.W.Frag → Bool} {fa : List He.Fa} {fn : List He.DefD} {g : Addr → Option Obj} {s : Shared} (h : ∀ a, g a = s.heap.get? a) : obsXG n ex fa fn g = (hookX n ex fa fn).obs s := by
  have e : g = s.heap.get? := funext h
  rw [e]; rfl
section
variable {K : PySem.W.Frag} {h : Heap} {mg : Str → Option Value}
theorem gm_int (X : K.In h) (G : h.Ns mainGlobals mg) {x : Str} {i : Int} (c : (He.Fa.int x i).ok K = true) : GM K mg x (.int i) := by
  obtain ⟨t, e⟩ := He.int_ok X G c
  exact ⟨_, .int i, e, ⟨t, rfl⟩, fun _ _ => .int i⟩
theorem gm_tup2 (X : K.In h) (G : h.Ns mainGlobals mg) {x : Str} {i j : Int} (c : (He.Fa.glo x).ok K = true) (c2 : He.tupB K x [.int i, .int j] = true) : GM K mg x (.tup [.int i, .int j]) := by
  refine ⟨_, .ref (He.ga K x), He.glo_ok X G c, rfl, fun μ H => ?_⟩
  have q := He.tupB_ok c2 (fun _ => none)
  rcases q with q | q
  · rcases q with q | ⟨o, q⟩ <;> cases q
  · exact .tup (.inr q) (.cons (.int i) (.cons (.int j) .nil))
theorem fd_of (X : K.In h) (G : h.Ns mainGlobals mg) {C f : Str} (c1 : (He.Fa.glo C).ok K = true) (c2 : (He.Fa.cls C).ok K = true) (c3 : (He.Fa.noat C f).ok K = true) : Fd K mg C f := ⟨_, He.glo_ok X G c1, He.cls_ok c2, He.noat_ok c3⟩
end
end DX

set_option Elab.async false
set_option linter.all false
set_option maxRecDepth 100000
set_option maxHeartbeats 0
/-! The head of glueforms_k11_main_whole_worths_and_pair: printed by head.py. -/
namespace K11
open PySem PySem.Spec PyProof.Rows L2 DX
def d_is_whole : He.DefD := ⟨("is_whole", none), "is_whole", "is_whole", defArgs st_is_whole, defBody st_is_whole, defScope st_is_whole, [], []⟩
def d_is_from : He.DefD := ⟨("is_from", none), "is_from", "is_from", defArgs st_is_from, defBody st_is_from, defScope st_is_from, [], []⟩
def d_are_wholes : He.DefD := ⟨("are_wholes", none), "are_wholes", "are_wholes", defArgs st_are_wholes, defBody st_are_wholes, defScope st_are_wholes, [], []⟩
def d_is_tuple_up_to : He.DefD := ⟨("is_tuple_up_to", none), "is_tuple_up_to", "is_tuple_up_to", defArgs st_is_tuple_up_to, defBody st_is_tuple_up_to, defScope st_is_tuple_up_to, [], []⟩
def d_common_divisor : He.DefD := ⟨("common_divisor", none), "common_divisor", "common_divisor", defArgs st_common_divisor, defBody st_common_divisor, defScope st_common_divisor, [], []⟩
def d_fraction : He.DefD := ⟨("fraction", none), "fraction", "fraction", defArgs st_fraction, defBody st_fraction, defScope st_fraction, [], []⟩
def d_is_fraction : He.DefD := ⟨("is_fraction", none), "is_fraction", "is_fraction", defArgs st_is_fraction, defBody st_is_fraction, defScope st_is_fraction, [], []⟩
def d_is_worth : He.DefD := ⟨("is_worth", none), "is_worth", "is_worth", defArgs st_is_worth, defBody st_is_worth, defScope st_is_worth, [], []⟩
def d_product_of : He.DefD := ⟨("product_of", none), "product_of", "product_of", defArgs st_product_of, defBody st_product_of, defScope st_product_of, [], []⟩
def d_common_multiple : He.DefD := ⟨("common_multiple", none), "common_multiple", "common_multiple", defArgs st_common_multiple, defBody st_common_multiple, defScope st_common_multiple, [], []⟩
def d_are_worths : He.DefD := ⟨("are_worths", none), "are_worths", "are_worths", defArgs st_are_worths, defBody st_are_worths, defScope st_are_worths, [], []⟩
def d_is_whole_times : He.DefD := ⟨("is_whole_times", none), "is_whole_times", "is_whole_times", defArgs st_is_whole_times, defBody st_is_whole_times, defScope st_is_whole_times, [], []⟩
def d_does_go_by_squares : He.DefD := ⟨("does_go_by_squares", none), "does_go_by_squares", "does_go_by_squares", defArgs st_does_go_by_squares, defBody st_does_go_by_squares, defScope st_does_go_by_squares, [], []⟩
def d_is_kind_by : He.DefD := ⟨("is_kind_by", none), "is_kind_by", "is_kind_by", defArgs st_is_kind_by, defBody st_is_kind_by, defScope st_is_kind_by, [], []⟩
def d_is_row_by : He.DefD := ⟨("is_row_by", none), "is_row_by", "is_row_by", defArgs st_is_row_by, defBody st_is_row_by, defScope st_is_row_by, [], []⟩
def d_size_by : He.DefD := ⟨("size_by", none), "size_by", "size_by", defArgs st_size_by, defBody st_size_by, defScope st_size_by, [], []⟩
def d_plain_by : He.DefD := ⟨("plain_by", none), "plain_by", "plain_by", defArgs st_plain_by, defBody st_plain_by, defScope st_plain_by, [], []⟩
def d_all_rows_by : He.DefD := ⟨("all_rows_by", none), "all_rows_by", "all_rows_by", defArgs st_all_rows_by, defBody st_all_rows_by, defScope st_all_rows_by, [], []⟩
def d_level_of : He.DefD := ⟨("level_of", none), "level_of", "level_of", defArgs st_level_of, defBody st_level_of, defScope st_level_of, [], []⟩
def d_Reckoner___init__ : He.DefD := ⟨("Reckoner", some "__init__"), "__init__", "Reckoner.__init__", defArgs st_Reckoner___init__, defBody st_Reckoner___init__, defScope st_Reckoner___init__, [], []⟩
def d_Reckoner_shares : He.DefD := ⟨("Reckoner", some "shares"), "shares", "Reckoner.shares", defArgs st_Reckoner_shares, defBody st_Reckoner_shares, defScope st_Reckoner_shares, [], []⟩
def d_Reckoner_letter_pairing : He.DefD := ⟨("Reckoner", some "letter_pairing"), "letter_pairing", "Reckoner.letter_pairing", defArgs st_Reckoner_letter_pairing, defBody st_Reckoner_letter_pairing, defScope st_Reckoner_letter_pairing, [], []⟩
def d_Reckoner_order : He.DefD := ⟨("Reckoner", some "order"), "order", "Reckoner.order", defArgs st_Reckoner_order, defBody st_Reckoner_order, defScope st_Reckoner_order, [], []⟩
def d_Reckoner_worth : He.DefD := ⟨("Reckoner", some "worth"), "worth", "Reckoner.worth", defArgs st_Reckoner_worth, defBody st_Reckoner_worth, defScope st_Reckoner_worth, [], []⟩
def d_Reckoner_pairing : He.DefD := ⟨("Reckoner", some "pairing"), "pairing", "Reckoner.pairing", defArgs st_Reckoner_pairing, defBody st_Reckoner_pairing, defScope st_Reckoner_pairing, [], []⟩
def d_Reckoner_told : He.DefD := ⟨("Reckoner", some "told"), "told", "Reckoner.told", defArgs st_Reckoner_told, defBody st_Reckoner_told, defScope st_Reckoner_told, [], []⟩
def d_worth_by : He.DefD := ⟨("worth_by", none), "worth_by", "worth_by", defArgs st_worth_by, defBody st_worth_by, defScope st_worth_by, [], []⟩
def d_pairing_by : He.DefD := ⟨("pairing_by", none), "pairing_by", "pairing_by", defArgs st_pairing_by, defBody st_pairing_by, defScope st_pairing_by, [], []⟩
def d_order_by : He.DefD := ⟨("order_by", none), "order_by", "order_by", defArgs st_order_by, defBody st_order_by, defScope st_order_by, [], []⟩
def d_check_kind : He.DefD := ⟨("check_kind", none), "check_kind", "check_kind", defArgs st_check_kind, defBody st_check_kind, defScope st_check_kind, [], []⟩
def d_check_row : He.DefD := ⟨("check_row", none), "check_row", "check_row", defArgs st_check_row, defBody st_check_row, defScope st_check_row, [], []⟩
def d_check_kind_and_row : He.DefD := ⟨("check_kind_and_row", none), "check_kind_and_row", "check_kind_and_row", defArgs st_check_kind_and_row, defBody st_check_kind_and_row, defScope st_check_kind_and_row, [], []⟩
def d_is_kind : He.DefD := ⟨("is_kind", none), "is_kind", "is_kind", defArgs st_is_kind, defBody st_is_kind, defScope st_is_kind, [], []⟩
def d_plain : He.DefD := ⟨("plain", none), "plain", "plain", defArgs st_plain, defBody st_plain, defScope st_plain, [], []⟩
def d_worth : He.DefD := ⟨("worth", none), "worth", "worth", defArgs st_worth, defBody st_worth, defScope st_worth, [], []⟩
def d_pairing : He.DefD := ⟨("pairing", none), "pairing", "pairing", defArgs st_pairing, defBody st_pairing, defScope st_pairing, [], []⟩
def d_order : He.DefD := ⟨("order", none), "order", "order", defArgs st_order, defBody st_order, defScope st_order, [], []⟩
def d_all_rows : He.DefD := ⟨("all_rows", none), "all_rows", "all_rows", defArgs st_all_rows, defBody st_all_rows, defScope st_all_rows, [], []⟩
def d_beside_by : He.DefD := ⟨("beside_by", none), "beside_by", "beside_by", defArgs st_beside_by, defBody st_beside_by, defScope st_beside_by, [], []⟩
def d_beside : He.DefD := ⟨("beside", none), "beside", "beside", defArgs st_beside, defBody st_beside, defScope st_beside, [], []⟩
def d__law_tide : He.DefD := ⟨("_law_tide", none), "_law_tide", "_law_tide", defArgs st__law_tide, defBody st__law_tide, defScope st__law_tide, [], []⟩
def d__law_wave : He.DefD := ⟨("_law_wave", none), "_law_wave", "_law_wave", defArgs st__law_wave, defBody st__law_wave, defScope st__law_wave, [], []⟩
def d__law_one : He.DefD := ⟨("_law_one", none), "_law_one", "_law_one", defArgs st__law_one, defBody st__law_one, defScope st__law_one, [], []⟩
def d__law_like : He.DefD := ⟨("_law_like", none), "_law_like", "_law_like", defArgs st__law_like, defBody st__law_like, defScope st__law_like, [], []⟩
def d__law_common : He.DefD := ⟨("_law_common", none), "_law_common", "_law_common", defArgs st__law_common, defBody st__law_common, defScope st__law_common, [], []⟩
def d__law_round_one : He.DefD := ⟨("_law_round_one", none), "_law_round_one", "_law_round_one", defArgs st__law_round_one, defBody st__law_round_one, defScope st__law_round_one, [], []⟩
def d__law_added : He.DefD := ⟨("_law_added", none), "_law_added", "_law_added", defArgs st__law_added, defBody st__law_added, defScope st__law_added, [], []⟩
def d__law_times : He.DefD := ⟨("_law_times", none), "_law_times", "_law_times", defArgs st__law_times, defBody st__law_times, defScope st__law_times, [], []⟩
def d__law_plain : He.DefD := ⟨("_law_plain", none), "_law_plain", "_law_plain", defArgs st__law_plain, defBody st__law_plain, defScope st__law_plain, [], []⟩
def d__law_worth : He.DefD := ⟨("_law_worth", none), "_law_worth", "_law_worth", defArgs st__law_worth, defBody st__law_worth, defScope st__law_worth, [], []⟩
def d__law_pairing : He.DefD := ⟨("_law_pairing", none), "_law_pairing", "_law_pairing", defArgs st__law_pairing, defBody st__law_pairing, defScope st__law_pairing, [], []⟩
def d__law_drawn_kind : He.DefD := ⟨("_law_drawn_kind", none), "_law_drawn_kind", "_law_drawn_kind", defArgs st__law_drawn_kind, defBody st__law_drawn_kind, defScope st__law_drawn_kind, [], []⟩
def d__law_order : He.DefD := ⟨("_law_order", none), "_law_order", "_law_order", defArgs st__law_order, defBody st__law_order, defScope st__law_order, [], []⟩
def d__law_drawn_row : He.DefD := ⟨("_law_drawn_row", none), "_law_drawn_row", "_law_drawn_row", defArgs st__law_drawn_row, defBody st__law_drawn_row, defScope st__law_drawn_row, [], []⟩
def d__law_put : He.DefD := ⟨("_law_put", none), "_law_put", "_law_put", defArgs st__law_put, defBody st__law_put, defScope st__law_put, [], []⟩
def d__law_right : He.DefD := ⟨("_law_right", none), "_law_right", "_law_right", defArgs st__law_right, defBody st__law_right, defScope st__law_right, [], []⟩
def d_law : He.DefD := ⟨("law", none), "law", "law", defArgs st_law, defBody st_law, defScope st_law, [], []⟩
def hfn0 : List He.DefD := [d_is_whole, d_is_from, d_are_wholes, d_is_tuple_up_to, d_common_divisor, d_fraction, d_is_fraction, d_is_worth, d_product_of, d_common_multiple, d_are_worths, d_is_whole_times, d_does_go_by_squares, d_is_kind_by, d_is_row_by, d_size_by, d_plain_by, d_all_rows_by, d_level_of, d_Reckoner___init__, d_Reckoner_shares, d_Reckoner_letter_pairing, d_Reckoner_order, d_Reckoner_worth, d_Reckoner_pairing, d_Reckoner_told, d_worth_by, d_pairing_by, d_order_by, d_check_kind]
def hfn1 : List He.DefD := [d_check_row, d_check_kind_and_row, d_is_kind, d_plain, d_worth, d_pairing, d_order, d_all_rows, d_beside_by, d_beside, d__law_tide, d__law_wave, d__law_one, d__law_like, d__law_common, d__law_round_one, d__law_added, d__law_times, d__law_plain, d__law_worth, d__law_pairing, d__law_drawn_kind, d__law_order, d__law_drawn_row, d__law_put, d__law_right, d_law]
def hfn : List He.DefD := hfn0 ++ (hfn1)
def hfa0 : List He.Fa := [.glo "is_whole", .glo "is_from", .glo "are_wholes", .glo "is_tuple_up_to", .glo "common_divisor", .glo "fraction", .glo "is_fraction", .glo "is_worth", .glo "product_of", .glo "common_multiple", .glo "are_worths", .glo "is_whole_times", .glo "does_go_by_squares", .glo "is_kind_by", .glo "is_row_by", .glo "size_by", .glo "plain_by", .glo "all_rows_by", .glo "level_of", .glo "worth_by", .glo "pairing_by", .glo "order_by", .glo "check_kind", .glo "check_row", .glo "check_kind_and_row", .glo "is_kind", .glo "plain", .glo "worth", .glo "pairing", .glo "order"]
def hfa1 : List He.Fa := [.glo "all_rows", .glo "beside_by", .glo "beside", .glo "_law_tide", .glo "_law_wave", .glo "_law_one", .glo "_law_like", .glo "_law_common", .glo "_law_round_one", .glo "_law_added", .glo "_law_times", .glo "_law_plain", .glo "_law_worth", .glo "_law_pairing", .glo "_law_drawn_kind", .glo "_law_order", .glo "_law_drawn_row", .glo "_law_put", .glo "_law_right", .glo "law", .glo "Reckoner", .cls "Reckoner", .mkr "Reckoner", .noat "Reckoner" "kind", .noat "Reckoner" "known", .noat "Reckoner" "level", .noat "Reckoner" "many", .noat "Reckoner" "orders", .noat "Reckoner" "owns", .noat "Reckoner" "pairs"]
def hfa2 : List He.Fa := [.meth "Reckoner" "shares", .meth "Reckoner" "letter_pairing", .meth "Reckoner" "order", .meth "Reckoner" "worth", .meth "Reckoner" "pairing", .meth "Reckoner" "told", .int "MOST_LETTERS" 10, .int "MOST_SIZE" 1024, .glo "NOUGHT", .free "abs", .free "all", .free "any", .free "bool", .free "divmod", .free "enumerate", .free "int", .free "isinstance", .free "len", .free "max", .free "min", .free "range", .free "str", .free "sum", .free "tuple", .free "zip"]
def hfa : List He.Fa := hfa0 ++ (hfa1 ++ (hfa2))
def hnames0 : List PySem.Str := ["_wall", "GlueError", "NotAKind", "NotNow", "InvalidRow", "is_whole", "is_from", "are_wholes", "is_tuple_up_to", "common_divisor", "fraction", "is_fraction", "is_worth", "MOST_LETTERS", "MOST_SIZE", "product_of", "common_multiple", "are_worths", "is_whole_times", "does_go_by_squares", "is_kind_by", "is_row_by", "size_by", "plain_by", "all_rows_by", "level_of", "Reckoner", "worth_by", "pairing_by", "order_by"]
def hnames1 : List PySem.Str := ["check_kind", "check_row", "check_kind_and_row", "is_kind", "plain", "worth", "pairing", "order", "all_rows", "NOUGHT", "beside_by", "beside", "_law_tide", "_law_wave", "_law_one", "_law_like", "_law_common", "_law_round_one", "_law_added", "_law_times", "_law_plain", "_law_worth", "_law_pairing", "_law_drawn_kind", "_law_order", "_law_drawn_row", "_law_put", "_law_right"]
def hnames : List PySem.Str := hnames0 ++ (hnames1)
def hex : PySem.W.Frag → Bool := fun K => He.tupB K "NOUGHT" [.int 0, .int 1]
abbrev hR : PySem.W.OpenRow := PySem.W.OpenLaw.row PySem.Challenge.rw_glueforms_k11_main_whole_worths_and_pair
abbrev hk : PySem.W.Hook := hookX 4 hex hfa hfn
def hob (s : PySem.W.SharedT) : AlX := obsXG 4 hex hfa hfn (HandSHeadRun.getT s)
theorem hob_eq (s : PySem.W.SharedT) : hob s = hk.obs s.abs := obsXG_eq (HandSHeadRun.getT_eq s)
theorem hrun (w : World) : HandSHeadRun.RunEq hR (PySem.W.view hR.prog [66]) hk hob 8000 hnames w := by
  intro os
  kernel_rfl
end K11

set_option Elab.async false
set_option linter.all false
set_option maxRecDepth 100000
set_option maxHeartbeats 4000000
/-! The assembly of glueforms_k11_main_whole_worths_and_pair: printed by asm.py. -/
namespace K11
open PySem PySem.Spec PyProof.Rows L2 DX
theorem falso {P : Program} {w : World} {K : PySem.W.Frag} {mg : Str → Option Value} {base : Heap} {st : Stmt} {x : Str} {ps : List Str} {f : Addr} {fd : FuncData} {sp : DSp} (F : Fn K st x x ps f fd) (hm : mg x = some (.ref f)) (h : ∀ ds s P, sp ds s P → False) : DX.Cl P w K mg base 0 st x ps sp :=
  ⟨f, fd, ⟨fun vs H Q E h => h.1, fun A outer s H args us vs Q E _ _ _ _ ⟨_, _, _, _, _, _, _, z, _⟩ => (h _ _ _ z).elim⟩, hm, F⟩
theorem mkmono {P : Program} {w : World} {K : PySem.W.Frag} {mg : Str → Option Value} {base : Heap} {k j : Nat} {C : Str} {ps : List Str} {sp : DSp} (c : Mk1 P w K mg base k C ps sp) (h : k ≤ j) : Mk1 P w K mg base j C ps sp := let ⟨a, b, d, h1, h2, h3, h4⟩ := c.ex; ⟨a, b, d, h1, h2, h3.mono h, h4⟩
theorem mtmono {P : Program} {w : World} {K : PySem.W.Frag} {mg : Str → Option Value} {base : Heap} {k j : Nat} {C m : Str} {ps : List Str} {sp : DSp} (c : Mt P w K mg base k C m ps sp) (h : k ≤ j) : Mt P w K mg base j C m ps sp := let ⟨a, b, d, h1, h2, h3, h4, h5⟩ := c.ex; ⟨a, b, d, h1, h2, h3, h4.mono h, h5⟩
section
variable {P : Program} {w : World} {K : PySem.W.Frag} {mg : Str → Option Value} {h : Heap}
theorem nm_of (X : K.In h) (G : h.Ns mainGlobals mg) (ce : hex K = true) (c : He.SaysD hfa hfn K) : Nm K mg where
  g_MOST_LETTERS := gm_int X G (c.fact 66 (f := .int "MOST_LETTERS" 10) rfl)
  g_MOST_SIZE := gm_int X G (c.fact 67 (f := .int "MOST_SIZE" 1024) rfl)
  g_NOUGHT := gm_tup2 X G (c.fact 68 (f := .glo "NOUGHT") rfl) ce
  b_abs := He.free_ok X G (c.fact 69 (f := .free "abs") rfl)
  b_all := He.free_ok X G (c.fact 70 (f := .free "all") rfl)
  b_any := He.free_ok X G (c.fact 71 (f := .free "any") rfl)
  b_bool := He.free_ok X G (c.fact 72 (f := .free "bool") rfl)
  b_divmod := He.free_ok X G (c.fact 73 (f := .free "divmod") rfl)
  b_enumerate := He.free_ok X G (c.fact 74 (f := .free "enumerate") rfl)
  b_int := He.free_ok X G (c.fact 75 (f := .free "int") rfl)
  b_isinstance := He.free_ok X G (c.fact 76 (f := .free "isinstance") rfl)
  b_len := He.free_ok X G (c.fact 77 (f := .free "len") rfl)
  b_max := He.free_ok X G (c.fact 78 (f := .free "max") rfl)
  b_min := He.free_ok X G (c.fact 79 (f := .free "min") rfl)
  b_range := He.free_ok X G (c.fact 80 (f := .free "range") rfl)
  b_str := He.free_ok X G (c.fact 81 (f := .free "str") rfl)
  b_sum := He.free_ok X G (c.fact 82 (f := .free "sum") rfl)
  b_tuple := He.free_ok X G (c.fact 83 (f := .free "tuple") rfl)
  b_zip := He.free_ok X G (c.fact 84 (f := .free "zip") rfl)
  f_Reckoner_kind := fd_of X G (c.fact 50 (f := .glo "Reckoner") rfl) (c.fact 51 (f := .cls "Reckoner") rfl) (c.fact 53 (f := .noat "Reckoner" "kind") rfl)
  f_Reckoner_known := fd_of X G (c.fact 50 (f := .glo "Reckoner") rfl) (c.fact 51 (f := .cls "Reckoner") rfl) (c.fact 54 (f := .noat "Reckoner" "known") rfl)
  f_Reckoner_level := fd_of X G (c.fact 50 (f := .glo "Reckoner") rfl) (c.fact 51 (f := .cls "Reckoner") rfl) (c.fact 55 (f := .noat "Reckoner" "level") rfl)
  f_Reckoner_many := fd_of X G (c.fact 50 (f := .glo "Reckoner") rfl) (c.fact 51 (f := .cls "Reckoner") rfl) (c.fact 56 (f := .noat "Reckoner" "many") rfl)
  f_Reckoner_orders := fd_of X G (c.fact 50 (f := .glo "Reckoner") rfl) (c.fact 51 (f := .cls "Reckoner") rfl) (c.fact 57 (f := .noat "Reckoner" "orders") rfl)
  f_Reckoner_owns := fd_of X G (c.fact 50 (f := .glo "Reckoner") rfl) (c.fact 51 (f := .cls "Reckoner") rfl) (c.fact 58 (f := .noat "Reckoner" "owns") rfl)
  f_Reckoner_pairs := fd_of X G (c.fact 50 (f := .glo "Reckoner") rfl) (c.fact 51 (f := .cls "Reckoner") rfl) (c.fact 59 (f := .noat "Reckoner" "pairs") rfl)
theorem law_ok {f : Addr} (X : K.In h) (G : h.Ns mainGlobals mg) (hmg : mg ("law" : Str) = some (.ref f)) (ce : hex K = true) (c : He.SaysD hfa hfn K) :
    ∃ fd : FuncData, (∀ (s : Shared) (v : Value), BindsTo s fd ⟨[v], []⟩ [("script", v)]) ∧ ∀ base : Heap, FnOk P w K mg base CX0 22 f fd ["script"] (lf K mg 1 sp_law) := by
  have nm := nm_of X G ce c
  obtain ⟨fd__law_wave, F__law_wave⟩ := c.def_ 41 (d := d__law_wave) rfl
  have N__law_wave' : Fn K st__law_wave "_law_wave" "_law_wave" ps__law_wave (He.ga K "_law_wave") fd__law_wave := ⟨F__law_wave, FunD.bindsN (ps := ps__law_wave) F__law_wave fun _ _ _ _ _ _ us hl => match us, hl with | [_, _], _ => rfl⟩
  have G__law_wave : mg "_law_wave" = some (.ref (He.ga K "_law_wave")) := He.glo_ok X G (c.fact 34 (f := .glo "_law_wave") rfl)
  obtain ⟨fd__law_one, F__law_one⟩ := c.def_ 42 (d := d__law_one) rfl
  have N__law_one' : Fn K st__law_one "_law_one" "_law_one" ps__law_one (He.ga K "_law_one") fd__law_one := ⟨F__law_one, FunD.bindsN (ps := ps__law_one) F__law_one fun _ _ _ _ _ _ us hl => match us, hl with | [_, _], _ => rfl⟩
  have G__law_one : mg "_law_one" = some (.ref (He.ga K "_law_one")) := He.glo_ok X G (c.fact 35 (f := .glo "_law_one") rfl)
  obtain ⟨fd__law_common, F__law_common⟩ := c.def_ 44 (d := d__law_common) rfl
  have N__law_common' : Fn K st__law_common "_law_common" "_law_common" ps__law_common (He.ga K "_law_common") fd__law_common := ⟨F__law_common, FunD.bindsN (ps := ps__law_common) F__law_common fun _ _ _ _ _ _ us hl => match us, hl with | [_, _], _ => rfl⟩
  have G__law_common : mg "_law_common" = some (.ref (He.ga K "_law_common")) := He.glo_ok X G (c.fact 37 (f := .glo "_law_common") rfl)
  obtain ⟨fd__law_round_one, F__law_round_one⟩ := c.def_ 45 (d := d__law_round_one) rfl
  have N__law_round_one' : Fn K st__law_round_one "_law_round_one" "_law_round_one" ps__law_round_one (He.ga K "_law_round_one") fd__law_round_one := ⟨F__law_round_one, FunD.bindsN (ps := ps__law_round_one) F__law_round_one fun _ _ _ _ _ _ us hl => match us, hl with | [_, _], _ => rfl⟩
  have G__law_round_one : mg "_law_round_one" = some (.ref (He.ga K "_law_round_one")) := He.glo_ok X G (c.fact 38 (f := .glo "_law_round_one") rfl)
  obtain ⟨fd__law_drawn_kind, F__law_drawn_kind⟩ := c.def_ 51 (d := d__law_drawn_kind) rfl
  have N__law_drawn_kind' : Fn K st__law_drawn_kind "_law_drawn_kind" "_law_drawn_kind" ps__law_drawn_kind (He.ga K "_law_drawn_kind") fd__law_drawn_kind := ⟨F__law_drawn_kind, FunD.bindsN (ps := ps__law_drawn_kind) F__law_drawn_kind fun _ _ _ _ _ _ us hl => match us, hl with | [_, _, _], _ => rfl⟩
  have G__law_drawn_kind : mg "_law_drawn_kind" = some (.ref (He.ga K "_law_drawn_kind")) := He.glo_ok X G (c.fact 44 (f := .glo "_law_drawn_kind") rfl)
  obtain ⟨fd__law_drawn_row, F__law_drawn_row⟩ := c.def_ 53 (d := d__law_drawn_row) rfl
  have N__law_drawn_row' : Fn K st__law_drawn_row "_law_drawn_row" "_law_drawn_row" ps__law_drawn_row (He.ga K "_law_drawn_row") fd__law_drawn_row := ⟨F__law_drawn_row, FunD.bindsN (ps := ps__law_drawn_row) F__law_drawn_row fun _ _ _ _ _ _ us hl => match us, hl with | [_, _], _ => rfl⟩
  have G__law_drawn_row : mg "_law_drawn_row" = some (.ref (He.ga K "_law_drawn_row")) := He.glo_ok X G (c.fact 46 (f := .glo "_law_drawn_row") rfl)
  obtain ⟨fd__law_plain, F__law_plain⟩ := c.def_ 48 (d := d__law_plain) rfl
  have N__law_plain' : Fn K st__law_plain "_law_plain" "_law_plain" ps__law_plain (He.ga K "_law_plain") fd__law_plain := ⟨F__law_plain, FunD.bindsN (ps := ps__law_plain) F__law_plain fun _ _ _ _ _ _ us hl => match us, hl with | [_, _], _ => rfl⟩
  have G__law_plain : mg "_law_plain" = some (.ref (He.ga K "_law_plain")) := He.glo_ok X G (c.fact 41 (f := .glo "_law_plain") rfl)
  obtain ⟨fd_is_tuple_up_to, F_is_tuple_up_to⟩ := c.def_ 3 (d := d_is_tuple_up_to) rfl
  have N_is_tuple_up_to' : Fn K st_is_tuple_up_to "is_tuple_up_to" "is_tuple_up_to" ps_is_tuple_up_to (He.ga K "is_tuple_up_to") fd_is_tuple_up_to := ⟨F_is_tuple_up_to, FunD.bindsN (ps := ps_is_tuple_up_to) F_is_tuple_up_to fun _ _ _ _ _ _ us hl => match us, hl with | [_, _, _], _ => rfl⟩
  have G_is_tuple_up_to : mg "is_tuple_up_to" = some (.ref (He.ga K "is_tuple_up_to")) := He.glo_ok X G (c.fact 3 (f := .glo "is_tuple_up_to") rfl)
  obtain ⟨fd_is_whole, F_is_whole⟩ := c.def_ 0 (d := d_is_whole) rfl
  have N_is_whole' : Fn K st_is_whole "is_whole" "is_whole" ps_is_whole (He.ga K "is_whole") fd_is_whole := ⟨F_is_whole, FunD.bindsN (ps := ps_is_whole) F_is_whole fun _ _ _ _ _ _ us hl => match us, hl with | [_], _ => rfl⟩
  have G_is_whole : mg "is_whole" = some (.ref (He.ga K "is_whole")) := He.glo_ok X G (c.fact 0 (f := .glo "is_whole") rfl)
  obtain ⟨fd_is_from, F_is_from⟩ := c.def_ 1 (d := d_is_from) rfl
  have N_is_from' : Fn K st_is_from "is_from" "is_from" ps_is_from (He.ga K "is_from") fd_is_from := ⟨F_is_from, FunD.bindsN (ps := ps_is_from) F_is_from fun _ _ _ _ _ _ us hl => match us, hl with | [_, _], _ => rfl⟩
  have G_is_from : mg "is_from" = some (.ref (He.ga K "is_from")) := He.glo_ok X G (c.fact 1 (f := .glo "is_from") rfl)
  obtain ⟨fd_product_of, F_product_of⟩ := c.def_ 8 (d := d_product_of) rfl
  have N_product_of' : Fn K st_product_of "product_of" "product_of" ps_product_of (He.ga K "product_of") fd_product_of := ⟨F_product_of, FunD.bindsN (ps := ps_product_of) F_product_of fun _ _ _ _ _ _ us hl => match us, hl with | [_], _ => rfl⟩
  have G_product_of : mg "product_of" = some (.ref (He.ga K "product_of")) := He.glo_ok X G (c.fact 8 (f := .glo "product_of") rfl)
  obtain ⟨fd_are_wholes, F_are_wholes⟩ := c.def_ 2 (d := d_are_wholes) rfl
  have N_are_wholes' : Fn K st_are_wholes "are_wholes" "are_wholes" ps_are_wholes (He.ga K "are_wholes") fd_are_wholes := ⟨F_are_wholes, FunD.bindsN (ps := ps_are_wholes) F_are_wholes fun _ _ _ _ _ _ us hl => match us, hl with | [_, _], _ => rfl⟩
  have G_are_wholes : mg "are_wholes" = some (.ref (He.ga K "are_wholes")) := He.glo_ok X G (c.fact 2 (f := .glo "are_wholes") rfl)
  obtain ⟨fd_common_divisor, F_common_divisor⟩ := c.def_ 4 (d := d_common_divisor) rfl
  have N_common_divisor' : Fn K st_common_divisor "common_divisor" "common_divisor" ps_common_divisor (He.ga K "common_divisor") fd_common_divisor := ⟨F_common_divisor, FunD.bindsN (ps := ps_common_divisor) F_common_divisor fun _ _ _ _ _ _ us hl => match us, hl with | [_, _], _ => rfl⟩
  have G_common_divisor : mg "common_divisor" = some (.ref (He.ga K "common_divisor")) := He.glo_ok X G (c.fact 4 (f := .glo "common_divisor") rfl)
  obtain ⟨fd_is_fraction, F_is_fraction⟩ := c.def_ 6 (d := d_is_fraction) rfl
  have N_is_fraction' : Fn K st_is_fraction "is_fraction" "is_fraction" ps_is_fraction (He.ga K "is_fraction") fd_is_fraction := ⟨F_is_fraction, FunD.bindsN (ps := ps_is_fraction) F_is_fraction fun _ _ _ _ _ _ us hl => match us, hl with | [_], _ => rfl⟩
  have G_is_fraction : mg "is_fraction" = some (.ref (He.ga K "is_fraction")) := He.glo_ok X G (c.fact 6 (f := .glo "is_fraction") rfl)
  obtain ⟨fd_is_worth, F_is_worth⟩ := c.def_ 7 (d := d_is_worth) rfl
  have N_is_worth' : Fn K st_is_worth "is_worth" "is_worth" ps_is_worth (He.ga K "is_worth") fd_is_worth := ⟨F_is_worth, FunD.bindsN (ps := ps_is_worth) F_is_worth fun _ _ _ _ _ _ us hl => match us, hl with | [_], _ => rfl⟩
  have G_is_worth : mg "is_worth" = some (.ref (He.ga K "is_worth")) := He.glo_ok X G (c.fact 7 (f := .glo "is_worth") rfl)
  obtain ⟨fd_are_worths, F_are_worths⟩ := c.def_ 10 (d := d_are_worths) rfl
  have N_are_worths' : Fn K st_are_worths "are_worths" "are_worths" ps_are_worths (He.ga K "are_worths") fd_are_worths := ⟨F_are_worths, FunD.bindsN (ps := ps_are_worths) F_are_worths fun _ _ _ _ _ _ us hl => match us, hl with | [_, _], _ => rfl⟩
  have G_are_worths : mg "are_worths" = some (.ref (He.ga K "are_worths")) := He.glo_ok X G (c.fact 10 (f := .glo "are_worths") rfl)
  obtain ⟨fd_is_whole_times, F_is_whole_times⟩ := c.def_ 11 (d := d_is_whole_times) rfl
  have N_is_whole_times' : Fn K st_is_whole_times "is_whole_times" "is_whole_times" ps_is_whole_times (He.ga K "is_whole_times") fd_is_whole_times := ⟨F_is_whole_times, FunD.bindsN (ps := ps_is_whole_times) F_is_whole_times fun _ _ _ _ _ _ us hl => match us, hl with | [_, _], _ => rfl⟩
  have G_is_whole_times : mg "is_whole_times" = some (.ref (He.ga K "is_whole_times")) := He.glo_ok X G (c.fact 11 (f := .glo "is_whole_times") rfl)
  obtain ⟨fd_does_go_by_squares, F_does_go_by_squares⟩ := c.def_ 12 (d := d_does_go_by_squares) rfl
  have N_does_go_by_squares' : Fn K st_does_go_by_squares "does_go_by_squares" "does_go_by_squares" ps_does_go_by_squares (He.ga K "does_go_by_squares") fd_does_go_by_squares := ⟨F_does_go_by_squares, FunD.bindsN (ps := ps_does_go_by_squares) F_does_go_by_squares fun _ _ _ _ _ _ us hl => match us, hl with | [_, _], _ => rfl⟩
  have G_does_go_by_squares : mg "does_go_by_squares" = some (.ref (He.ga K "does_go_by_squares")) := He.glo_ok X G (c.fact 12 (f := .glo "does_go_by_squares") rfl)
  obtain ⟨fd_is_kind_by, F_is_kind_by⟩ := c.def_ 13 (d := d_is_kind_by) rfl
  have N_is_kind_by' : Fn K st_is_kind_by "is_kind_by" "is_kind_by" ps_is_kind_by (He.ga K "is_kind_by") fd_is_kind_by := ⟨F_is_kind_by, FunD.bindsN (ps := ps_is_kind_by) F_is_kind_by fun _ _ _ _ _ _ us hl => match us, hl with | [_], _ => rfl⟩
  have G_is_kind_by : mg "is_kind_by" = some (.ref (He.ga K "is_kind_by")) := He.glo_ok X G (c.fact 13 (f := .glo "is_kind_by") rfl)
  obtain ⟨fd_check_kind, F_check_kind⟩ := c.def_ 29 (d := d_check_kind) rfl
  have N_check_kind' : Fn K st_check_kind "check_kind" "check_kind" ps_check_kind (He.ga K "check_kind") fd_check_kind := ⟨F_check_kind, FunD.bindsN (ps := ps_check_kind) F_check_kind fun _ _ _ _ _ _ us hl => match us, hl with | [_], _ => rfl⟩
  have G_check_kind : mg "check_kind" = some (.ref (He.ga K "check_kind")) := He.glo_ok X G (c.fact 22 (f := .glo "check_kind") rfl)
  obtain ⟨fd_is_row_by, F_is_row_by⟩ := c.def_ 14 (d := d_is_row_by) rfl
  have N_is_row_by' : Fn K st_is_row_by "is_row_by" "is_row_by" ps_is_row_by (He.ga K "is_row_by") fd_is_row_by := ⟨F_is_row_by, FunD.bindsN (ps := ps_is_row_by) F_is_row_by fun _ _ _ _ _ _ us hl => match us, hl with | [_, _], _ => rfl⟩
  have G_is_row_by : mg "is_row_by" = some (.ref (He.ga K "is_row_by")) := He.glo_ok X G (c.fact 14 (f := .glo "is_row_by") rfl)
  obtain ⟨fd_check_row, F_check_row⟩ := c.def_ 30 (d := d_check_row) rfl
  have N_check_row' : Fn K st_check_row "check_row" "check_row" ps_check_row (He.ga K "check_row") fd_check_row := ⟨F_check_row, FunD.bindsN (ps := ps_check_row) F_check_row fun _ _ _ _ _ _ us hl => match us, hl with | [_, _], _ => rfl⟩
  have G_check_row : mg "check_row" = some (.ref (He.ga K "check_row")) := He.glo_ok X G (c.fact 23 (f := .glo "check_row") rfl)
  obtain ⟨fd_check_kind_and_row, F_check_kind_and_row⟩ := c.def_ 31 (d := d_check_kind_and_row) rfl
  have N_check_kind_and_row' : Fn K st_check_kind_and_row "check_kind_and_row" "check_kind_and_row" ps_check_kind_and_row (He.ga K "check_kind_and_row") fd_check_kind_and_row := ⟨F_check_kind_and_row, FunD.bindsN (ps := ps_check_kind_and_row) F_check_kind_and_row fun _ _ _ _ _ _ us hl => match us, hl with | [_, _], _ => rfl⟩
  have G_check_kind_and_row : mg "check_kind_and_row" = some (.ref (He.ga K "check_kind_and_row")) := He.glo_ok X G (c.fact 24 (f := .glo "check_kind_and_row") rfl)
  obtain ⟨fd_common_multiple, F_common_multiple⟩ := c.def_ 9 (d := d_common_multiple) rfl
  have N_common_multiple' : Fn K st_common_multiple "common_multiple" "common_multiple" ps_common_multiple (He.ga K "common_multiple") fd_common_multiple := ⟨F_common_multiple, FunD.bindsN (ps := ps_common_multiple) F_common_multiple fun _ _ _ _ _ _ us hl => match us, hl with | [_], _ => rfl⟩
  have G_common_multiple : mg "common_multiple" = some (.ref (He.ga K "common_multiple")) := He.glo_ok X G (c.fact 9 (f := .glo "common_multiple") rfl)
  obtain ⟨fd_level_of, F_level_of⟩ := c.def_ 18 (d := d_level_of) rfl
  have N_level_of' : Fn K st_level_of "level_of" "level_of" ps_level_of (He.ga K "level_of") fd_level_of := ⟨F_level_of, FunD.bindsN (ps := ps_level_of) F_level_of fun _ _ _ _ _ _ us hl => match us, hl with | [_], _ => rfl⟩
  have G_level_of : mg "level_of" = some (.ref (He.ga K "level_of")) := He.glo_ok X G (c.fact 18 (f := .glo "level_of") rfl)
  obtain ⟨fd_Reckoner_shares, F_Reckoner_shares⟩ := c.def_ 20 (d := d_Reckoner_shares) rfl
  have B_Reckoner_shares : Binds K fd_Reckoner_shares ps_Reckoner_shares [] := FunD.bindsN (ps := ps_Reckoner_shares) F_Reckoner_shares fun _ _ _ _ _ _ us hl => match us, hl with | [_, _], _ => rfl
  obtain ⟨fd_Reckoner_letter_pairing, F_Reckoner_letter_pairing⟩ := c.def_ 21 (d := d_Reckoner_letter_pairing) rfl
  have B_Reckoner_letter_pairing : Binds K fd_Reckoner_letter_pairing ps_Reckoner_letter_pairing [] := FunD.bindsN (ps := ps_Reckoner_letter_pairing) F_Reckoner_letter_pairing fun _ _ _ _ _ _ us hl => match us, hl with | [_, _, _], _ => rfl
  obtain ⟨fd_Reckoner___init__, F_Reckoner___init__⟩ := c.def_ 19 (d := d_Reckoner___init__) rfl
  have B_Reckoner___init__ : Binds K fd_Reckoner___init__ ps_Reckoner___init__ [] := FunD.bindsN (ps := ps_Reckoner___init__) F_Reckoner___init__ fun _ _ _ _ _ _ us hl => match us, hl with | [_, _], _ => rfl
  obtain ⟨fd_Reckoner_order, F_Reckoner_order⟩ := c.def_ 22 (d := d_Reckoner_order) rfl
  have B_Reckoner_order : Binds K fd_Reckoner_order ps_Reckoner_order [] := FunD.bindsN (ps := ps_Reckoner_order) F_Reckoner_order fun _ _ _ _ _ _ us hl => match us, hl with | [_, _], _ => rfl
  obtain ⟨fd_order_by, F_order_by⟩ := c.def_ 28 (d := d_order_by) rfl
  have N_order_by' : Fn K st_order_by "order_by" "order_by" ps_order_by (He.ga K "order_by") fd_order_by := ⟨F_order_by, FunD.bindsN (ps := ps_order_by) F_order_by fun _ _ _ _ _ _ us hl => match us, hl with | [_, _], _ => rfl⟩
  have G_order_by : mg "order_by" = some (.ref (He.ga K "order_by")) := He.glo_ok X G (c.fact 21 (f := .glo "order_by") rfl)
  obtain ⟨fd_order, F_order⟩ := c.def_ 36 (d := d_order) rfl
  have N_order' : Fn K st_order "order" "order" ps_order (He.ga K "order") fd_order := ⟨F_order, FunD.bindsN (ps := ps_order) F_order fun _ _ _ _ _ _ us hl => match us, hl with | [_, _], _ => rfl⟩
  have G_order : mg "order" = some (.ref (He.ga K "order")) := He.glo_ok X G (c.fact 29 (f := .glo "order") rfl)
  obtain ⟨fd_fraction, F_fraction⟩ := c.def_ 5 (d := d_fraction) rfl
  have N_fraction' : Fn K st_fraction "fraction" "fraction" ps_fraction (He.ga K "fraction") fd_fraction := ⟨F_fraction, FunD.bindsN (ps := ps_fraction) F_fraction fun _ _ _ _ _ _ us hl => match us, hl with | [_, _], _ => rfl⟩
  have G_fraction : mg "fraction" = some (.ref (He.ga K "fraction")) := He.glo_ok X G (c.fact 5 (f := .glo "fraction") rfl)
  obtain ⟨fd_Reckoner_told, F_Reckoner_told⟩ := c.def_ 25 (d := d_Reckoner_told) rfl
  have B_Reckoner_told : Binds K fd_Reckoner_told ps_Reckoner_told [] := FunD.bindsN (ps := ps_Reckoner_told) F_Reckoner_told fun _ _ _ _ _ _ us hl => match us, hl with | [_, _], _ => rfl
  obtain ⟨fd_Reckoner_worth, F_Reckoner_worth⟩ := c.def_ 23 (d := d_Reckoner_worth) rfl
  have B_Reckoner_worth : Binds K fd_Reckoner_worth ps_Reckoner_worth [] := FunD.bindsN (ps := ps_Reckoner_worth) F_Reckoner_worth fun _ _ _ _ _ _ us hl => match us, hl with | [_, _], _ => rfl
  obtain ⟨fd_worth_by, F_worth_by⟩ := c.def_ 26 (d := d_worth_by) rfl
  have N_worth_by' : Fn K st_worth_by "worth_by" "worth_by" ps_worth_by (He.ga K "worth_by") fd_worth_by := ⟨F_worth_by, FunD.bindsN (ps := ps_worth_by) F_worth_by fun _ _ _ _ _ _ us hl => match us, hl with | [_, _], _ => rfl⟩
  have G_worth_by : mg "worth_by" = some (.ref (He.ga K "worth_by")) := He.glo_ok X G (c.fact 19 (f := .glo "worth_by") rfl)
  obtain ⟨fd_worth, F_worth⟩ := c.def_ 34 (d := d_worth) rfl
  have N_worth' : Fn K st_worth "worth" "worth" ps_worth (He.ga K "worth") fd_worth := ⟨F_worth, FunD.bindsN (ps := ps_worth) F_worth fun _ _ _ _ _ _ us hl => match us, hl with | [_, _], _ => rfl⟩
  have G_worth : mg "worth" = some (.ref (He.ga K "worth")) := He.glo_ok X G (c.fact 27 (f := .glo "worth") rfl)
  obtain ⟨fd_plain_by, F_plain_by⟩ := c.def_ 16 (d := d_plain_by) rfl
  have N_plain_by' : Fn K st_plain_by "plain_by" "plain_by" ps_plain_by (He.ga K "plain_by") fd_plain_by := ⟨F_plain_by, FunD.bindsN (ps := ps_plain_by) F_plain_by fun _ _ _ _ _ _ us hl => match us, hl with | [_, _], _ => rfl⟩
  have G_plain_by : mg "plain_by" = some (.ref (He.ga K "plain_by")) := He.glo_ok X G (c.fact 16 (f := .glo "plain_by") rfl)
  obtain ⟨fd_plain, F_plain⟩ := c.def_ 33 (d := d_plain) rfl
  have N_plain' : Fn K st_plain "plain" "plain" ps_plain (He.ga K "plain") fd_plain := ⟨F_plain, FunD.bindsN (ps := ps_plain) F_plain fun _ _ _ _ _ _ us hl => match us, hl with | [_, _], _ => rfl⟩
  have G_plain : mg "plain" = some (.ref (He.ga K "plain")) := He.glo_ok X G (c.fact 26 (f := .glo "plain") rfl)
  obtain ⟨fd__law_like, F__law_like⟩ := c.def_ 43 (d := d__law_like) rfl
  have N__law_like' : Fn K st__law_like "_law_like" "_law_like" ps__law_like (He.ga K "_law_like") fd__law_like := ⟨F__law_like, FunD.bindsN (ps := ps__law_like) F__law_like fun _ _ _ _ _ _ us hl => match us, hl with | [_, _], _ => rfl⟩
  have G__law_like : mg "_law_like" = some (.ref (He.ga K "_law_like")) := He.glo_ok X G (c.fact 36 (f := .glo "_law_like") rfl)
  obtain ⟨fd__law_added, F__law_added⟩ := c.def_ 46 (d := d__law_added) rfl
  have N__law_added' : Fn K st__law_added "_law_added" "_law_added" ps__law_added (He.ga K "_law_added") fd__law_added := ⟨F__law_added, FunD.bindsN (ps := ps__law_added) F__law_added fun _ _ _ _ _ _ us hl => match us, hl with | [_, _], _ => rfl⟩
  have G__law_added : mg "_law_added" = some (.ref (He.ga K "_law_added")) := He.glo_ok X G (c.fact 39 (f := .glo "_law_added") rfl)
  obtain ⟨fd__law_times, F__law_times⟩ := c.def_ 47 (d := d__law_times) rfl
  have N__law_times' : Fn K st__law_times "_law_times" "_law_times" ps__law_times (He.ga K "_law_times") fd__law_times := ⟨F__law_times, FunD.bindsN (ps := ps__law_times) F__law_times fun _ _ _ _ _ _ us hl => match us, hl with | [_, _], _ => rfl⟩
  have G__law_times : mg "_law_times" = some (.ref (He.ga K "_law_times")) := He.glo_ok X G (c.fact 40 (f := .glo "_law_times") rfl)
  obtain ⟨fd__law_worth, F__law_worth⟩ := c.def_ 49 (d := d__law_worth) rfl
  have N__law_worth' : Fn K st__law_worth "_law_worth" "_law_worth" ps__law_worth (He.ga K "_law_worth") fd__law_worth := ⟨F__law_worth, FunD.bindsN (ps := ps__law_worth) F__law_worth fun _ _ _ _ _ _ us hl => match us, hl with | [_, _], _ => rfl⟩
  have G__law_worth : mg "_law_worth" = some (.ref (He.ga K "_law_worth")) := He.glo_ok X G (c.fact 42 (f := .glo "_law_worth") rfl)
  obtain ⟨fd__law_order, F__law_order⟩ := c.def_ 52 (d := d__law_order) rfl
  have N__law_order' : Fn K st__law_order "_law_order" "_law_order" ps__law_order (He.ga K "_law_order") fd__law_order := ⟨F__law_order, FunD.bindsN (ps := ps__law_order) F__law_order fun _ _ _ _ _ _ us hl => match us, hl with | [_, _], _ => rfl⟩
  have G__law_order : mg "_law_order" = some (.ref (He.ga K "_law_order")) := He.glo_ok X G (c.fact 45 (f := .glo "_law_order") rfl)
  obtain ⟨fd_is_kind, F_is_kind⟩ := c.def_ 32 (d := d_is_kind) rfl
  have N_is_kind' : Fn K st_is_kind "is_kind" "is_kind" ps_is_kind (He.ga K "is_kind") fd_is_kind := ⟨F_is_kind, FunD.bindsN (ps := ps_is_kind) F_is_kind fun _ _ _ _ _ _ us hl => match us, hl with | [_], _ => rfl⟩
  have G_is_kind : mg "is_kind" = some (.ref (He.ga K "is_kind")) := He.glo_ok X G (c.fact 25 (f := .glo "is_kind") rfl)
  obtain ⟨fd__law_pairing, F__law_pairing⟩ := c.def_ 50 (d := d__law_pairing) rfl
  have N__law_pairing' : Fn K st__law_pairing "_law_pairing" "_law_pairing" ps__law_pairing (He.ga K "_law_pairing") fd__law_pairing := ⟨F__law_pairing, FunD.bindsN (ps := ps__law_pairing) F__law_pairing fun _ _ _ _ _ _ us hl => match us, hl with | [_, _, _], _ => rfl⟩
  have G__law_pairing : mg "_law_pairing" = some (.ref (He.ga K "_law_pairing")) := He.glo_ok X G (c.fact 43 (f := .glo "_law_pairing") rfl)
  obtain ⟨fd_Reckoner_pairing, F_Reckoner_pairing⟩ := c.def_ 24 (d := d_Reckoner_pairing) rfl
  have B_Reckoner_pairing : Binds K fd_Reckoner_pairing ps_Reckoner_pairing [] := FunD.bindsN (ps := ps_Reckoner_pairing) F_Reckoner_pairing fun _ _ _ _ _ _ us hl => match us, hl with | [_, _, _], _ => rfl
  obtain ⟨fd_pairing_by, F_pairing_by⟩ := c.def_ 27 (d := d_pairing_by) rfl
  have N_pairing_by' : Fn K st_pairing_by "pairing_by" "pairing_by" ps_pairing_by (He.ga K "pairing_by") fd_pairing_by := ⟨F_pairing_by, FunD.bindsN (ps := ps_pairing_by) F_pairing_by fun _ _ _ _ _ _ us hl => match us, hl with | [_, _, _], _ => rfl⟩
  have G_pairing_by : mg "pairing_by" = some (.ref (He.ga K "pairing_by")) := He.glo_ok X G (c.fact 20 (f := .glo "pairing_by") rfl)
  obtain ⟨fd_pairing, F_pairing⟩ := c.def_ 35 (d := d_pairing) rfl
  have N_pairing' : Fn K st_pairing "pairing" "pairing" ps_pairing (He.ga K "pairing") fd_pairing := ⟨F_pairing, FunD.bindsN (ps := ps_pairing) F_pairing fun _ _ _ _ _ _ us hl => match us, hl with | [_, _, _], _ => rfl⟩
  have G_pairing : mg "pairing" = some (.ref (He.ga K "pairing")) := He.glo_ok X G (c.fact 28 (f := .glo "pairing") rfl)
  obtain ⟨fd__law_put, F__law_put⟩ := c.def_ 54 (d := d__law_put) rfl
  have N__law_put' : Fn K st__law_put "_law_put" "_law_put" ps__law_put (He.ga K "_law_put") fd__law_put := ⟨F__law_put, FunD.bindsN (ps := ps__law_put) F__law_put fun _ _ _ _ _ _ us hl => match us, hl with | [_, _, _, _], _ => rfl⟩
  have G__law_put : mg "_law_put" = some (.ref (He.ga K "_law_put")) := He.glo_ok X G (c.fact 47 (f := .glo "_law_put") rfl)
  obtain ⟨fd_size_by, F_size_by⟩ := c.def_ 15 (d := d_size_by) rfl
  have N_size_by' : Fn K st_size_by "size_by" "size_by" ps_size_by (He.ga K "size_by") fd_size_by := ⟨F_size_by, FunD.bindsN (ps := ps_size_by) F_size_by fun _ _ _ _ _ _ us hl => match us, hl with | [_], _ => rfl⟩
  have G_size_by : mg "size_by" = some (.ref (He.ga K "size_by")) := He.glo_ok X G (c.fact 15 (f := .glo "size_by") rfl)
  obtain ⟨fd_beside_by, F_beside_by⟩ := c.def_ 38 (d := d_beside_by) rfl
  have N_beside_by' : Fn K st_beside_by "beside_by" "beside_by" ps_beside_by (He.ga K "beside_by") fd_beside_by := ⟨F_beside_by, FunD.bindsN (ps := ps_beside_by) F_beside_by fun _ _ _ _ _ _ us hl => match us, hl with | [_, _], _ => rfl⟩
  have G_beside_by : mg "beside_by" = some (.ref (He.ga K "beside_by")) := He.glo_ok X G (c.fact 31 (f := .glo "beside_by") rfl)
  obtain ⟨fd_beside, F_beside⟩ := c.def_ 39 (d := d_beside) rfl
  have N_beside' : Fn K st_beside "beside" "beside" ps_beside (He.ga K "beside") fd_beside := ⟨F_beside, FunD.bindsN (ps := ps_beside) F_beside fun _ _ _ _ _ _ us hl => match us, hl with | [_, _], _ => rfl⟩
  have G_beside : mg "beside" = some (.ref (He.ga K "beside")) := He.glo_ok X G (c.fact 32 (f := .glo "beside") rfl)
  obtain ⟨fd_all_rows_by, F_all_rows_by⟩ := c.def_ 17 (d := d_all_rows_by) rfl
  have N_all_rows_by' : Fn K st_all_rows_by "all_rows_by" "all_rows_by" ps_all_rows_by (He.ga K "all_rows_by") fd_all_rows_by := ⟨F_all_rows_by, FunD.bindsN (ps := ps_all_rows_by) F_all_rows_by fun _ _ _ _ _ _ us hl => match us, hl with | [_], _ => rfl⟩
  have G_all_rows_by : mg "all_rows_by" = some (.ref (He.ga K "all_rows_by")) := He.glo_ok X G (c.fact 17 (f := .glo "all_rows_by") rfl)
  obtain ⟨fd_all_rows, F_all_rows⟩ := c.def_ 37 (d := d_all_rows) rfl
  have N_all_rows' : Fn K st_all_rows "all_rows" "all_rows" ps_all_rows (He.ga K "all_rows") fd_all_rows := ⟨F_all_rows, FunD.bindsN (ps := ps_all_rows) F_all_rows fun _ _ _ _ _ _ us hl => match us, hl with | [_], _ => rfl⟩
  have G_all_rows : mg "all_rows" = some (.ref (He.ga K "all_rows")) := He.glo_ok X G (c.fact 30 (f := .glo "all_rows") rfl)
  obtain ⟨fd__law_right, F__law_right⟩ := c.def_ 55 (d := d__law_right) rfl
  have N__law_right' : Fn K st__law_right "_law_right" "_law_right" ps__law_right (He.ga K "_law_right") fd__law_right := ⟨F__law_right, FunD.bindsN (ps := ps__law_right) F__law_right fun _ _ _ _ _ _ us hl => match us, hl with | [_], _ => rfl⟩
  have G__law_right : mg "_law_right" = some (.ref (He.ga K "_law_right")) := He.glo_ok X G (c.fact 48 (f := .glo "_law_right") rfl)
  obtain ⟨fd__law_tide, F__law_tide⟩ := c.def_ 40 (d := d__law_tide) rfl
  have N__law_tide' : Fn K st__law_tide "_law_tide" "_law_tide" ps__law_tide (He.ga K "_law_tide") fd__law_tide := ⟨F__law_tide, FunD.bindsN (ps := ps__law_tide) F__law_tide fun _ _ _ _ _ _ us hl => match us, hl with | [_, _], _ => rfl⟩
  have G__law_tide : mg "_law_tide" = some (.ref (He.ga K "_law_tide")) := He.glo_ok X G (c.fact 33 (f := .glo "_law_tide") rfl)
  obtain ⟨fd_law, F_law⟩ := c.def_ 56 (d := d_law) rfl
  have N_law' : Fn K st_law "law" "law" ps_law (He.ga K "law") fd_law := ⟨F_law, FunD.bindsN (ps := ps_law) F_law fun _ _ _ _ _ _ us hl => match us, hl with | [_], _ => rfl⟩
  have G_law : mg "law" = some (.ref (He.ga K "law")) := He.glo_ok X G (c.fact 49 (f := .glo "law") rfl)
  have e := hmg.symm.trans G_law
  cases e
  refine ⟨fd_law, fun s v => FunD.bindsA (ps := ["script"]) F_law (fun _ _ _ _ _ _ us hl => match us, hl with | [_], _ => rfl) s [v] rfl, fun base => ?_⟩
  have C__law_wave : DX.Cl P w K mg base 2 st__law_wave "_law_wave" ps__law_wave sp__law_wave := Cl.of N__law_wave' G__law_wave sc__law_wave (fun cdv A outer s H E hr => wk__law_wave (k := 0) nm  cdv A outer s H E hr) (fun ds st' P' _ h => ok__law_wave ds st' P' h)
  have C__law_one : DX.Cl P w K mg base 4 st__law_one "_law_one" ps__law_one sp__law_one := Cl.of N__law_one' G__law_one sc__law_one (fun cdv A outer s H E hr => wk__law_one (k := 2) nm (C__law_wave.mono (by decide)) cdv A outer s H E hr) (fun ds st' P' _ h => ok__law_one ds st' P' h)
  have C__law_common : DX.Cl P w K mg base 2 st__law_common "_law_common" ps__law_common sp__law_common := Cl.of N__law_common' G__law_common sc__law_common (fun cdv A outer s H E hr => wk__law_common (k := 0) nm  cdv A outer s H E hr) (fun ds st' P' _ h => ok__law_common ds st' P' h)
  have C__law_round_one : DX.Cl P w K mg base 4 st__law_round_one "_law_round_one" ps__law_round_one sp__law_round_one := Cl.of N__law_round_one' G__law_round_one sc__law_round_one (fun cdv A outer s H E hr => wk__law_round_one (k := 2) nm (C__law_common.mono (by decide)) cdv A outer s H E hr) (fun ds st' P' _ h => ok__law_round_one ds st' P' h)
  have C__law_drawn_kind : DX.Cl P w K mg base 6 st__law_drawn_kind "_law_drawn_kind" ps__law_drawn_kind sp__law_drawn_kind := Cl.of N__law_drawn_kind' G__law_drawn_kind sc__law_drawn_kind (fun cdv A outer s H E hr => wk__law_drawn_kind (k := 4) nm (C__law_wave.mono (by decide)) (C__law_one.mono (by decide)) (C__law_round_one.mono (by decide)) (C__law_common.mono (by decide)) cdv A outer s H E hr) (fun ds st' P' _ h => ok__law_drawn_kind ds st' P' h)
  have C__law_drawn_row : DX.Cl P w K mg base 6 st__law_drawn_row "_law_drawn_row" ps__law_drawn_row sp__law_drawn_row := Cl.of N__law_drawn_row' G__law_drawn_row sc__law_drawn_row (fun cdv A outer s H E hr => wk__law_drawn_row (k := 4) nm (C__law_wave.mono (by decide)) (C__law_one.mono (by decide)) cdv A outer s H E hr) (fun ds st' P' _ h => ok__law_drawn_row ds st' P' h)
  have C__law_plain : DX.Cl P w K mg base 2 st__law_plain "_law_plain" ps__law_plain sp__law_plain := Cl.of N__law_plain' G__law_plain sc__law_plain (fun cdv A outer s H E hr => wk__law_plain (k := 0) nm  cdv A outer s H E hr) (fun ds st' P' _ h => ok__law_plain ds st' P' h)
  have C_is_tuple_up_to : DX.Cl P w K mg base 2 st_is_tuple_up_to "is_tuple_up_to" ps_is_tuple_up_to sp_is_tuple_up_to := Cl.of N_is_tuple_up_to' G_is_tuple_up_to sc_is_tuple_up_to (fun cdv A outer s H E hr => wk_is_tuple_up_to (k := 0) nm  cdv A outer s H E hr) (fun ds st' P' _ h => ok_is_tuple_up_to ds st' P' h)
  have C_is_whole : DX.Cl P w K mg base 2 st_is_whole "is_whole" ps_is_whole sp_is_whole := Cl.of N_is_whole' G_is_whole sc_is_whole (fun cdv A outer s H E hr => wk_is_whole (k := 0) nm  cdv A outer s H E hr) (fun ds st' P' _ h => ok_is_whole ds st' P' h)
  have C_is_from : DX.Cl P w K mg base 4 st_is_from "is_from" ps_is_from sp_is_from := Cl.of N_is_from' G_is_from sc_is_from (fun cdv A outer s H E hr => wk_is_from (k := 2) nm (C_is_whole.mono (by decide)) cdv A outer s H E hr) (fun ds st' P' _ h => ok_is_from ds st' P' h)
  have C_product_of : DX.Cl P w K mg base 2 st_product_of "product_of" ps_product_of sp_product_of := Cl.of N_product_of' G_product_of sc_product_of (fun cdv A outer s H E hr => wk_product_of (k := 0) nm  cdv A outer s H E hr) (fun ds st' P' _ h => ok_product_of ds st' P' h)
  have C_are_wholes : DX.Cl P w K mg base 4 st_are_wholes "are_wholes" ps_are_wholes sp_are_wholes := Cl.of N_are_wholes' G_are_wholes sc_are_wholes (fun cdv A outer s H E hr => wk_are_wholes (k := 2) nm (C_is_whole.mono (by decide)) cdv A outer s H E hr) (fun ds st' P' _ h => ok_are_wholes ds st' P' h)
  have C_common_divisor : DX.Cl P w K mg base 2 st_common_divisor "common_divisor" ps_common_divisor sp_common_divisor := Cl.of N_common_divisor' G_common_divisor sc_common_divisor (fun cdv A outer s H E hr => wk_common_divisor (k := 0) nm  cdv A outer s H E hr) (fun ds st' P' _ h => ok_common_divisor ds st' P' h)
  have C_is_fraction : DX.Cl P w K mg base 6 st_is_fraction "is_fraction" ps_is_fraction sp_is_fraction := Cl.of N_is_fraction' G_is_fraction sc_is_fraction (fun cdv A outer s H E hr => wk_is_fraction (k := 4) nm (C_are_wholes.mono (by decide)) (C_common_divisor.mono (by decide)) cdv A outer s H E hr) (fun ds st' P' _ h => ok_is_fraction ds st' P' h)
  have C_is_worth : DX.Cl P w K mg base 8 st_is_worth "is_worth" ps_is_worth sp_is_worth := Cl.of N_is_worth' G_is_worth sc_is_worth (fun cdv A outer s H E hr => wk_is_worth (k := 6) nm (C_is_fraction.mono (by decide)) cdv A outer s H E hr) (fun ds st' P' _ h => ok_is_worth ds st' P' h)
  have C_are_worths : DX.Cl P w K mg base 10 st_are_worths "are_worths" ps_are_worths sp_are_worths := Cl.of N_are_worths' G_are_worths sc_are_worths (fun cdv A outer s H E hr => wk_are_worths (k := 8) nm (C_is_tuple_up_to.mono (by decide)) (C_is_worth.mono (by decide)) cdv A outer s H E hr) (fun ds st' P' _ h => ok_are_worths ds st' P' h)
  have C_is_whole_times : DX.Cl P w K mg base 2 st_is_whole_times "is_whole_times" ps_is_whole_times sp_is_whole_times := Cl.of N_is_whole_times' G_is_whole_times sc_is_whole_times (fun cdv A outer s H E hr => wk_is_whole_times (k := 0) nm  cdv A outer s H E hr) (fun ds st' P' _ h => ok_is_whole_times ds st' P' h)
  have C_does_go_by_squares : DX.Cl P w K mg base 4 st_does_go_by_squares "does_go_by_squares" ps_does_go_by_squares sp_does_go_by_squares := Cl.of N_does_go_by_squares' G_does_go_by_squares sc_does_go_by_squares (fun cdv A outer s H E hr => wk_does_go_by_squares (k := 2) nm (C_is_whole_times.mono (by decide)) cdv A outer s H E hr) (fun ds st' P' _ h => ok_does_go_by_squares ds st' P' h)
  have C_is_kind_by : DX.Cl P w K mg base 12 st_is_kind_by "is_kind_by" ps_is_kind_by sp_is_kind_by := Cl.of N_is_kind_by' G_is_kind_by sc_is_kind_by (fun cdv A outer s H E hr => wk_is_kind_by (k := 10) nm (C_is_tuple_up_to.mono (by decide)) (C_is_from.mono (by decide)) (C_product_of.mono (by decide)) (C_are_worths.mono (by decide)) (C_does_go_by_squares.mono (by decide)) cdv A outer s H E hr) (fun ds st' P' _ h => ok_is_kind_by ds st' P' h)
  have C_check_kind : DX.Cl P w K mg base 14 st_check_kind "check_kind" ps_check_kind sp_check_kind := Cl.of N_check_kind' G_check_kind sc_check_kind (fun cdv A outer s H E hr => wk_check_kind (k := 12) nm (C_is_kind_by.mono (by decide)) cdv A outer s H E hr) (fun ds st' P' _ h => ok_check_kind ds st' P' h)
  have C_is_row_by : DX.Cl P w K mg base 6 st_is_row_by "is_row_by" ps_is_row_by sp_is_row_by := Cl.of N_is_row_by' G_is_row_by sc_is_row_by (fun cdv A outer s H E hr => wk_is_row_by (k := 4) nm (C_are_wholes.mono (by decide)) cdv A outer s H E hr) (fun ds st' P' _ h => ok_is_row_by ds st' P' h)
  have C_check_row : DX.Cl P w K mg base 8 st_check_row "check_row" ps_check_row sp_check_row := Cl.of N_check_row' G_check_row sc_check_row (fun cdv A outer s H E hr => wk_check_row (k := 6) nm (C_is_row_by.mono (by decide)) cdv A outer s H E hr) (fun ds st' P' _ h => ok_check_row ds st' P' h)
  have C_check_kind_and_row : DX.Cl P w K mg base 16 st_check_kind_and_row "check_kind_and_row" ps_check_kind_and_row sp_check_kind_and_row := Cl.of N_check_kind_and_row' G_check_kind_and_row sc_check_kind_and_row (fun cdv A outer s H E hr => wk_check_kind_and_row (k := 14) nm (C_check_kind.mono (by decide)) (C_check_row.mono (by decide)) cdv A outer s H E hr) (fun ds st' P' _ h => ok_check_kind_and_row ds st' P' h)
  have C_common_multiple : DX.Cl P w K mg base 4 st_common_multiple "common_multiple" ps_common_multiple sp_common_multiple := Cl.of N_common_multiple' G_common_multiple sc_common_multiple (fun cdv A outer s H E hr => wk_common_multiple (k := 2) nm (C_common_divisor.mono (by decide)) cdv A outer s H E hr) (fun ds st' P' _ h => ok_common_multiple ds st' P' h)
  have C_level_of : DX.Cl P w K mg base 6 st_level_of "level_of" ps_level_of sp_level_of := Cl.of N_level_of' G_level_of sc_level_of (fun cdv A outer s H E hr => wk_level_of (k := 4) nm (C_common_multiple.mono (by decide)) cdv A outer s H E hr) (fun ds st' P' _ h => ok_level_of ds st' P' h)
  have M_Reckoner_shares : Mt P w K mg base 2 "Reckoner" "shares" ps_Reckoner_shares sp_Reckoner_shares := ⟨_, _, _, He.glo_ok X G (c.fact 50 (f := .glo "Reckoner") rfl), He.cls_ok (c.fact 51 (f := .cls "Reckoner") rfl), He.meth_ok (c.fact 60 (f := .meth "Reckoner" "shares") rfl), fnok F_Reckoner_shares sc_Reckoner_shares (fun cdv A outer s H E hr => wk_Reckoner_shares (k := 0) nm  cdv A outer s H E hr) (fun ds st' P' _ h => ok_Reckoner_shares ds st' P' h), B_Reckoner_shares⟩
  have M_Reckoner_letter_pairing : Mt P w K mg base 4 "Reckoner" "letter_pairing" ps_Reckoner_letter_pairing sp_Reckoner_letter_pairing := ⟨_, _, _, He.glo_ok X G (c.fact 50 (f := .glo "Reckoner") rfl), He.cls_ok (c.fact 51 (f := .cls "Reckoner") rfl), He.meth_ok (c.fact 61 (f := .meth "Reckoner" "letter_pairing") rfl), fnok F_Reckoner_letter_pairing sc_Reckoner_letter_pairing (fun cdv A outer s H E hr => wk_Reckoner_letter_pairing (k := 2) nm (mtmono M_Reckoner_shares (by decide)) cdv A outer s H E hr) (fun ds st' P' _ h => ok_Reckoner_letter_pairing ds st' P' h), B_Reckoner_letter_pairing⟩
  have K_Reckoner : Mk1 P w K mg base 8 "Reckoner" ps_Reckoner___init__ sp_Reckoner___init__ := ⟨_, _, _, He.glo_ok X G (c.fact 50 (f := .glo "Reckoner") rfl), He.mkr_ok (c.fact 52 (f := .mkr "Reckoner") rfl), fnok F_Reckoner___init__ sc_Reckoner___init__ (fun cdv A outer s H E hr => wk_Reckoner___init__ (k := 6) nm (C_level_of.mono (by decide)) (mtmono M_Reckoner_shares (by decide)) (mtmono M_Reckoner_letter_pairing (by decide)) cdv A outer s H E hr) (fun ds st' P' _ h => ok_Reckoner___init__ ds st' P' h), B_Reckoner___init__⟩
  have M_Reckoner_order : Mt P w K mg base 6 "Reckoner" "order" ps_Reckoner_order sp_Reckoner_order := ⟨_, _, _, He.glo_ok X G (c.fact 50 (f := .glo "Reckoner") rfl), He.cls_ok (c.fact 51 (f := .cls "Reckoner") rfl), He.meth_ok (c.fact 62 (f := .meth "Reckoner" "order") rfl), fnok F_Reckoner_order sc_Reckoner_order (fun cdv A outer s H E hr => wk_Reckoner_order (k := 4) nm (C_common_multiple.mono (by decide)) (C_common_divisor.mono (by decide)) cdv A outer s H E hr) (fun ds st' P' _ h => ok_Reckoner_order ds st' P' h), B_Reckoner_order⟩
  have C_order_by : DX.Cl P w K mg base 10 st_order_by "order_by" ps_order_by sp_order_by := Cl.of N_order_by' G_order_by sc_order_by (fun cdv A outer s H E hr => wk_order_by (k := 8) nm (mkmono K_Reckoner (by decide)) (mtmono M_Reckoner_order (by decide)) cdv A outer s H E hr) (fun ds st' P' _ h => ok_order_by ds st' P' h)
  have C_order : DX.Cl P w K mg base 18 st_order "order" ps_order sp_order := Cl.of N_order' G_order sc_order (fun cdv A outer s H E hr => wk_order (k := 16) nm (C_check_kind_and_row.mono (by decide)) (C_order_by.mono (by decide)) cdv A outer s H E hr) (fun ds st' P' _ h => ok_order ds st' P' h)
  have C_fraction : DX.Cl P w K mg base 4 st_fraction "fraction" ps_fraction sp_fraction := Cl.of N_fraction' G_fraction sc_fraction (fun cdv A outer s H E hr => wk_fraction (k := 2) nm (C_common_divisor.mono (by decide)) cdv A outer s H E hr) (fun ds st' P' _ h => ok_fraction ds st' P' h)
  have M_Reckoner_told : Mt P w K mg base 6 "Reckoner" "told" ps_Reckoner_told sp_Reckoner_told := ⟨_, _, _, He.glo_ok X G (c.fact 50 (f := .glo "Reckoner") rfl), He.cls_ok (c.fact 51 (f := .cls "Reckoner") rfl), He.meth_ok (c.fact 65 (f := .meth "Reckoner" "told") rfl), fnok F_Reckoner_told sc_Reckoner_told (fun cdv A outer s H E hr => wk_Reckoner_told (k := 4) nm (C_fraction.mono (by decide)) cdv A outer s H E hr) (fun ds st' P' _ h => ok_Reckoner_told ds st' P' h), B_Reckoner_told⟩
  have M_Reckoner_worth : Mt P w K mg base 2 "Reckoner" "worth" ps_Reckoner_worth sp_Reckoner_worth := ⟨_, _, _, He.glo_ok X G (c.fact 50 (f := .glo "Reckoner") rfl), He.cls_ok (c.fact 51 (f := .cls "Reckoner") rfl), He.meth_ok (c.fact 63 (f := .meth "Reckoner" "worth") rfl), fnok F_Reckoner_worth sc_Reckoner_worth (fun cdv A outer s H E hr => wk_Reckoner_worth (k := 0) nm  cdv A outer s H E hr) (fun ds st' P' _ h => ok_Reckoner_worth ds st' P' h), B_Reckoner_worth⟩
  have C_worth_by : DX.Cl P w K mg base 10 st_worth_by "worth_by" ps_worth_by sp_worth_by := Cl.of N_worth_by' G_worth_by sc_worth_by (fun cdv A outer s H E hr => wk_worth_by (k := 8) nm (mkmono K_Reckoner (by decide)) (mtmono M_Reckoner_told (by decide)) (mtmono M_Reckoner_worth (by decide)) cdv A outer s H E hr) (fun ds st' P' _ h => ok_worth_by ds st' P' h)
  have C_worth : DX.Cl P w K mg base 18 st_worth "worth" ps_worth sp_worth := Cl.of N_worth' G_worth sc_worth (fun cdv A outer s H E hr => wk_worth (k := 16) nm (C_check_kind_and_row.mono (by decide)) (C_worth_by.mono (by decide)) cdv A outer s H E hr) (fun ds st' P' _ h => ok_worth ds st' P' h)
  have C_plain_by : DX.Cl P w K mg base 2 st_plain_by "plain_by" ps_plain_by sp_plain_by := Cl.of N_plain_by' G_plain_by sc_plain_by (fun cdv A outer s H E hr => wk_plain_by (k := 0) nm  cdv A outer s H E hr) (fun ds st' P' _ h => ok_plain_by ds st' P' h)
  have C_plain : DX.Cl P w K mg base 18 st_plain "plain" ps_plain sp_plain := Cl.of N_plain' G_plain sc_plain (fun cdv A outer s H E hr => wk_plain (k := 16) nm (C_check_kind_and_row.mono (by decide)) (C_plain_by.mono (by decide)) cdv A outer s H E hr) (fun ds st' P' _ h => ok_plain ds st' P' h)
  have R__law_like : ∀ n : Nat, DX.Cl P w K mg base (2 * n) st__law_like "_law_like" ps__law_like (sp__law_like n) := fun n => by
    induction n with
    | zero => exact falso N__law_like' G__law_like fun ds s P h => by obtain ⟨d, _, h, _⟩ := h; cases h
    | succ n ih => exact Cl.of N__law_like' G__law_like sc__law_like (fun cdv A outer s H E hr => wk__law_like (k := 2 * n) nm ih cdv A outer s H E hr) (fun ds st' P' _ h => ok__law_like n ds st' P' h)
  have C__law_like := R__law_like 5
  have C__law_added : DX.Cl P w K mg base 6 st__law_added "_law_added" ps__law_added sp__law_added := Cl.of N__law_added' G__law_added sc__law_added (fun cdv A outer s H E hr => wk__law_added (k := 4) nm (C__law_round_one.mono (by decide)) cdv A outer s H E hr) (fun ds st' P' _ h => ok__law_added ds st' P' h)
  have C__law_times : DX.Cl P w K mg base 6 st__law_times "_law_times" ps__law_times sp__law_times := Cl.of N__law_times' G__law_times sc__law_times (fun cdv A outer s H E hr => wk__law_times (k := 4) nm (C__law_round_one.mono (by decide)) cdv A outer s H E hr) (fun ds st' P' _ h => ok__law_times ds st' P' h)
  have C__law_worth : DX.Cl P w K mg base 8 st__law_worth "_law_worth" ps__law_worth sp__law_worth := Cl.of N__law_worth' G__law_worth sc__law_worth (fun cdv A outer s H E hr => wk__law_worth (k := 6) nm (C__law_added.mono (by decide)) (C__law_times.mono (by decide)) cdv A outer s H E hr) (fun ds st' P' _ h => ok__law_worth ds st' P' h)
  have C__law_order : DX.Cl P w K mg base 4 st__law_order "_law_order" ps__law_order sp__law_order := Cl.of N__law_order' G__law_order sc__law_order (fun cdv A outer s H E hr => wk__law_order (k := 2) nm (C__law_common.mono (by decide)) cdv A outer s H E hr) (fun ds st' P' _ h => ok__law_order ds st' P' h)
  have C_is_kind : DX.Cl P w K mg base 14 st_is_kind "is_kind" ps_is_kind sp_is_kind := Cl.of N_is_kind' G_is_kind sc_is_kind (fun cdv A outer s H E hr => wk_is_kind (k := 12) nm (C_is_kind_by.mono (by decide)) cdv A outer s H E hr) (fun ds st' P' _ h => ok_is_kind ds st' P' h)
  have C__law_pairing : DX.Cl P w K mg base 10 st__law_pairing "_law_pairing" ps__law_pairing sp__law_pairing := Cl.of N__law_pairing' G__law_pairing sc__law_pairing (fun cdv A outer s H E hr => wk__law_pairing (k := 8) nm (C__law_worth.mono (by decide)) (C__law_added.mono (by decide)) (C__law_times.mono (by decide)) cdv A outer s H E hr) (fun ds st' P' _ h => ok__law_pairing ds st' P' h)
  have M_Reckoner_pairing : Mt P w K mg base 2 "Reckoner" "pairing" ps_Reckoner_pairing sp_Reckoner_pairing := ⟨_, _, _, He.glo_ok X G (c.fact 50 (f := .glo "Reckoner") rfl), He.cls_ok (c.fact 51 (f := .cls "Reckoner") rfl), He.meth_ok (c.fact 64 (f := .meth "Reckoner" "pairing") rfl), fnok F_Reckoner_pairing sc_Reckoner_pairing (fun cdv A outer s H E hr => wk_Reckoner_pairing (k := 0) nm  cdv A outer s H E hr) (fun ds st' P' _ h => ok_Reckoner_pairing ds st' P' h), B_Reckoner_pairing⟩
  have C_pairing_by : DX.Cl P w K mg base 10 st_pairing_by "pairing_by" ps_pairing_by sp_pairing_by := Cl.of N_pairing_by' G_pairing_by sc_pairing_by (fun cdv A outer s H E hr => wk_pairing_by (k := 8) nm (mkmono K_Reckoner (by decide)) (mtmono M_Reckoner_told (by decide)) (mtmono M_Reckoner_pairing (by decide)) cdv A outer s H E hr) (fun ds st' P' _ h => ok_pairing_by ds st' P' h)
  have C_pairing : DX.Cl P w K mg base 18 st_pairing "pairing" ps_pairing sp_pairing := Cl.of N_pairing' G_pairing sc_pairing (fun cdv A outer s H E hr => wk_pairing (k := 16) nm (C_check_kind_and_row.mono (by decide)) (C_check_row.mono (by decide)) (C_pairing_by.mono (by decide)) cdv A outer s H E hr) (fun ds st' P' _ h => ok_pairing ds st' P' h)
  have C__law_put : DX.Cl P w K mg base 2 st__law_put "_law_put" ps__law_put sp__law_put := Cl.of N__law_put' G__law_put sc__law_put (fun cdv A outer s H E hr => wk__law_put (k := 0) nm  cdv A outer s H E hr) (fun ds st' P' _ h => ok__law_put ds st' P' h)
  have C_size_by : DX.Cl P w K mg base 4 st_size_by "size_by" ps_size_by sp_size_by := Cl.of N_size_by' G_size_by sc_size_by (fun cdv A outer s H E hr => wk_size_by (k := 2) nm (C_product_of.mono (by decide)) cdv A outer s H E hr) (fun ds st' P' _ h => ok_size_by ds st' P' h)
  have C_beside_by : DX.Cl P w K mg base 2 st_beside_by "beside_by" ps_beside_by sp_beside_by := Cl.of N_beside_by' G_beside_by sc_beside_by (fun cdv A outer s H E hr => wk_beside_by (k := 0) nm  cdv A outer s H E hr) (fun ds st' P' _ h => ok_beside_by ds st' P' h)
  have C_beside : DX.Cl P w K mg base 16 st_beside "beside" ps_beside sp_beside := Cl.of N_beside' G_beside sc_beside (fun cdv A outer s H E hr => wk_beside (k := 14) nm (C_check_kind.mono (by decide)) (C_size_by.mono (by decide)) (C_beside_by.mono (by decide)) cdv A outer s H E hr) (fun ds st' P' _ h => ok_beside ds st' P' h)
  have C_all_rows_by : DX.Cl P w K mg base 2 st_all_rows_by "all_rows_by" ps_all_rows_by sp_all_rows_by := Cl.of N_all_rows_by' G_all_rows_by sc_all_rows_by (fun cdv A outer s H E hr => wk_all_rows_by (k := 0) nm  cdv A outer s H E hr) (fun ds st' P' _ h => ok_all_rows_by ds st' P' h)
  have C_all_rows : DX.Cl P w K mg base 16 st_all_rows "all_rows" ps_all_rows sp_all_rows := Cl.of N_all_rows' G_all_rows sc_all_rows (fun cdv A outer s H E hr => wk_all_rows (k := 14) nm (C_check_kind.mono (by decide)) (C_all_rows_by.mono (by decide)) cdv A outer s H E hr) (fun ds st' P' _ h => ok_all_rows ds st' P' h)
  have C__law_right : DX.Cl P w K mg base 20 st__law_right "_law_right" ps__law_right sp__law_right := Cl.of N__law_right' G__law_right sc__law_right (fun cdv A outer s H E hr => wk__law_right (k := 18) nm (C__law_drawn_kind.mono (by decide)) (C__law_one.mono (by decide)) (C__law_drawn_row.mono (by decide)) (C__law_plain.mono (by decide)) (C_order.mono (by decide)) (C_worth.mono (by decide)) (C_plain.mono (by decide)) (C__law_like.mono (by decide)) (C__law_worth.mono (by decide)) (C__law_order.mono (by decide)) (C_is_kind.mono (by decide)) (C__law_pairing.mono (by decide)) (C_pairing.mono (by decide)) (C__law_times.mono (by decide)) (C__law_put.mono (by decide)) (C__law_added.mono (by decide)) (C_beside.mono (by decide)) (C_all_rows.mono (by decide)) cdv A outer s H E hr) (fun ds st' P' _ h => ok__law_right ds st' P' h)
  have C__law_tide : DX.Cl P w K mg base 2 st__law_tide "_law_tide" ps__law_tide sp__law_tide := Cl.of N__law_tide' G__law_tide sc__law_tide (fun cdv A outer s H E hr => wk__law_tide (k := 0) nm  cdv A outer s H E hr) (fun ds st' P' _ h => ok__law_tide ds st' P' h)
  exact fnok F_law sc_law (fun cdv A outer s H E hr => wk_law (k := 20) nm (C__law_right.mono (by decide)) (C__law_tide.mono (by decide)) cdv A outer s H E hr) (fun ds st' P' _ h => ok_law ds st' P' h)
end
end K11

set_option Elab.async false
set_option linter.all false
set_option maxRecDepth 100000
set_option maxHeartbeats 0
/-! k11: the law holds. -/
namespace K11
open PySem PySem.Spec PyProof.Rows L2 DX
theorem rvs_ints {K : PySem.W.Frag} {mg : Str → Option Value} {μ : List Addr} {H : Hp} : ∀ ns : List Int, Rvs K mg μ H (ns.map V.int) (inz ns)
  | [] => .nil
  | n :: ns => .cons (.int n) (rvs_ints ns)
theorem entry {K : PySem.W.Frag} {mg : Str → Option Value} {H : Hp} {a : Addr} {ns : List Int} {E : XK} (hl : ns.length ≤ 63) (hO : Only H) (hS : SqL K H a (ns.map V.int)) : lf K mg 1 sp_law [.ref a] H (fun v _ => v = .bl true) E := by
  have hR : SqR K H a (ns.map V.int) := by
    rcases hS with (h | h) | h
    · rcases hO a with z | ⟨o, xs, z⟩
      · rw [z] at h; cases h
      · rw [z] at h; cases h
    · exact .inl h
    · exact .inr h
  refine ⟨rfl, [], [.rol (inz ns)], [], fun d _ => d = .bl true, ⟨rfl, List.nodup_nil, fun n a o h => by simp at h⟩, .cons (.rol hR (rvs_ints ns)) .nil, ⟨ns, rfl, by omega, fun s l => rfl⟩, fun d st v H' μ' e _ _ r => ?_⟩
  subst e
  cases r
  rfl
end K11
open PySem PySem.W PySem.Calls PyProof.Rows
theorem PySem.Challenge.cw_glueforms_k11_main_whole_worths_and_pair_holds : PySem.Challenge.rw_glueforms_k11_main_whole_worths_and_pair.Holds := by
  w_on; o_law
  refine HandSHeadRun.head_any (r := OpenLaw.row PySem.Challenge.rw_glueforms_k11_main_whole_worths_and_pair) (q := view (OpenLaw.row PySem.Challenge.rw_glueforms_k11_main_whole_worths_and_pair).prog [66]) (H := K11.hk) (ob := K11.hob) (M := 8000) (loose := K11.hnames) (d := HandSHeadRun.topDef (OpenLaw.row PySem.Challenge.rw_glueforms_k11_main_whole_worths_and_pair).prog 66) (kwd := []) K11.hob_eq
    (by kernel_rfl) (fun s => by kernel_rfl) K11.hrun (by kernel_rfl) (by kernel_rfl) (by kernel_rfl) (by rfl) (by first | assumption | decide +kernel) (by decide +kernel) ⟨rfl, rfl, rfl, rfl, rfl, by decide +kernel⟩ ?hw ?hc
  case hw => w_witness2
  case hc =>
    refine L2.walk_ofE (l := PySem.Challenge.rw_glueforms_k11_main_whole_worths_and_pair) (n := 63) (k := 22) (x := "script") (CX := L2.CX0) rfl (by decide) (by kernel_rfl) ⟨rfl, by decide, by decide⟩ ?F (fun _ _ _ _ z => z)
    intro w mg fa h Y G hmg0
    obtain ⟨K, KX, ce, c⟩ := Y
    have hmg : mg ("law" : PySem.Str) = some (.ref fa) := by
      have e : (HandSHeadRun.topDef (OpenLaw.row PySem.Challenge.rw_glueforms_k11_main_whole_worths_and_pair).prog 66).name = ("law" : PySem.Str) := by kernel_rfl
      rw [← e]
      exact hmg0
    obtain ⟨fd, hb, hF⟩ := K11.law_ok (P := (PySem.Challenge.rw_glueforms_k11_main_whole_worths_and_pair).prog) (w := w) KX G hmg ce c
    exact ⟨K, fd, DX.lf K mg 1 K11.sp_law, KX, hb, fun H a ns hl hO hS => K11.entry hl hO hS, fun base _ _ => hF base⟩
