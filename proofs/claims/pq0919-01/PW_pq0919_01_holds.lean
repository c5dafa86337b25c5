import PyProof.Rows.All
import Wide.All
import OpenK.AllK
import Wide.FinOn
import PySem.Challenge.RW_pq0919_01
set_option maxRecDepth 100000
set_option Elab.async false
set_option linter.all false
set_option genSizeOf false
set_option genInjectivity false
namespace Mine.Internal.H
open PySem PySem.W PySem.Calls PyProof.Rows
open PySem.TablesWhole
abbrev lw:OpenLaw:=PySem.Challenge.rw_pq0919_01
abbrev pg:Program:=lw.row.prog
abbrev bd:List Stmt:=pg.main.body
theorem tN {B:Alg Bool} (hb: ∀x y,B.both x y=(x&&y)) {top sc:Scope} {cx:TablesWhole.Ctx}: ∀a b:List Stmt,wSs B top cx sc a=true->wSs B top cx sc b=true->wSs B top cx sc (a++b)=true
 | [],_,_,h=>h
 |s::r,b,h,h'=>by
  have q:=Bool.and_eq_true_iff.mp ((hb (wS B top cx sc s) (wSs B top cx sc r)).symm.trans h)
  exact (hb (wS B top cx sc s) (wSs B top cx sc (r++b))).trans (look_both q.1 (tN hb r b q.2 h'))
theorem o4 {B:Alg Bool} (hb: ∀x y,B.both x y=(x&&y)) {top sc:Scope} {cx:TablesWhole.Ctx} (k:Nat) {l:List Stmt} (h:wSs B top cx sc (l.take k)=true) (h':wSs B top cx sc (l.drop k)=true):wSs B top cx sc l=true:=
 List.take_append_drop k l▸tN hb _ _ h h'
theorem qK {B:Alg Bool} (hb: ∀x y,B.both x y=(x&&y)) (hu:B.unit=true) {m:Module} (g:wSs gather m.scope ⟨m.scope, [], [], [],none⟩ m.scope m.body= []) (he:B.enter m.scope=true)
  (hc: ∀t n,B.check t m.scope n (noTwice m.scope)=true) (h:wSs B m.scope ⟨m.scope, [], [], [],none⟩ m.scope m.body=true):wModule B m=true:=by
 unfold wModule
 rw [g]
 refine (hb _ _).trans (look_both he ((hb _ _).trans (look_both (hc _ _) ((hb _ _).trans (look_both h hu)))))
theorem Ei {B:Alg Bool} (hb: ∀x y,B.both x y=(x&&y)) (hu:B.unit=true) {p:Program} (e1:p.modules= []) (e2:p.parses= []) (e3:p.harvested= []) (h:wModule B p.main=true):wProgram B p=true:=by
 unfold wProgram
 rw [e1,e2,e3]
 exact (hb _ _).trans (look_both h ((hb _ _).trans (look_both hu ((hb _ _).trans (look_both hu ((hb _ _).trans (look_both hu hu)))))))
theorem xN {k:Look}: ∀a b:List Stmt,noRoadLSs k a=true->noRoadLSs k b=true->noRoadLSs k (a++b)=true
 | [],_,_,h=>h
 |s::r,b,h,h'=>by
  have q:noRoadLS k s=true/\noRoadLSs k r=true:=Bool.and_eq_true_iff.mp h
  exact look_both q.1 (xN r b q.2 h')
theorem Kj {b:Bool} {l:List Str} {body:List Stmt} (e1:b=false) (e2:l= []) (h:noRoadLSs {strict:=false,foot:=none,bare:= []} (body.take 52)=true) (h':noRoadLSs {strict:=false,foot:=none,bare:= []} (body.drop 52)=true):noRoadLSs {strict:=b,foot:=none,bare:=l} body=true:=by
 subst e1 e2
 exact List.take_append_drop 52 body▸xN _ _ h h'
theorem vf:wSs gather pg.main.scope ⟨pg.main.scope, [], [], [],none⟩ pg.main.scope bd= []:=by decide+kernel
theorem Gi:noTwice pg.main.scope=true:=by decide+kernel
theorem ER:(!(importedModules bd).all cThrough.contains)=false:=by decide+kernel
theorem ry:readsOut pg bd "vars"=false:=by decide+kernel
theorem RM:readsOut pg bd "dir"=false:=by decide+kernel
theorem QU:readsOut pg bd "locals"=false:=by decide+kernel
theorem La:(["vars","dir","locals"]:List Str).filter (readsOut pg bd)= []:=
 (List.filter_cons_of_neg (Bool.eq_false_iff.mp ry)).trans ((List.filter_cons_of_neg (Bool.eq_false_iff.mp RM)).trans (List.filter_cons_of_neg (Bool.eq_false_iff.mp QU)))
theorem Mm:noRoadLSs {strict:=false,foot:=none,bare:= []} (bd.take 52)=true:=by decide+kernel
theorem MF:noRoadLSs {strict:=false,foot:=none,bare:= []} (bd.drop 52)=true:=by decide+kernel
theorem QF:namesResolve pg=true:=by
 unfold namesResolve
 refine qK (λ_ _=>rfl) rfl vf rfl (λ_ _=>rfl) (o4 (λ_ _=>rfl) 52 ?_ ?_)
 all_goals decide+kernel
theorem Nv:(namesMeet pg bd λ_ n=>attrL n)=true:=by
 unfold namesMeet
 refine qK (λ_ _=>rfl) rfl vf rfl (λ_ _=>rfl) (o4 (λ_ _=>rfl) 52 ?_ ?_)
 all_goals decide+kernel
theorem Hu:pg.tablesWhole=true:=by
 refine Ei (λ_ _=>rfl) rfl rfl rfl rfl (qK (λ_ _=>rfl) rfl vf rfl (λ_ _=>Gi) (o4 (λ_ _=>rfl) 52 ?_ ?_))
 all_goals decide+kernel
set_option maxHeartbeats 4000000 in
theorem Qo:lw.wellSaid=true:=by
 unfold OpenLaw.wellSaid OpenRow.wellSaid OpenRow.partSaid looksOpen
 repeat' with_reducible apply PySem.W.look_both
 all_goals first
  |with_reducible exact Kj ER La Mm MF
  |with_reducible exact QF
  |with_reducible exact Nv
  |decide+kernel
end Mine.Internal.H
namespace Mine.Internal
inductive ae {α β:Type} (R:α->β->Prop):List α->List β->Prop
 |nil:ae R [] []
 |cons {a b l m}:R a b->ae R l m->ae R (a::l) (b::m)
theorem ae.length {α β:Type} {R:α->β->Prop} {l:List α} {m:List β} (h:ae R l m):l.length=m.length:=by
 induction h with
 |nil=>rfl
 |cons _ _ ih=>exact congrArg Nat.succ ih
theorem ae.imp {α β:Type} {R S:α->β->Prop} (f: ∀a b,R a b->S a b) {l:List α} {m:List β} (h:ae R l m):ae S l m:=by
 induction h with
 |nil=>exact .nil
 |cons h _ ih=>exact .cons (f _ _ h) ih
theorem ae.append {α β:Type} {R:α->β->Prop} {l₂:List α} {m₂:List β} (h₂:ae R l₂ m₂) {l:List α} {m:List β} (h:ae R l m):ae R (l++l₂) (m++m₂):=by
 induction h with
 |nil=>exact h₂
 |cons h _ ih=>exact .cons h ih
theorem ae.get' {α β:Type} {R:α->β->Prop} {l:List α} {m:List β} (h:ae R l m): ∀{i:Nat} {a:α},l[i]?=some a-> ∃b,m[i]?=some b/\R a b:=by
 induction h with
 |nil=>exact λe=>(nomatch e)
 |cons h _ ih=>exact λ{i a} e=>match i,e with
  |0,e=>⟨_,rfl,Option.some.inj e▸h⟩
  |i+1,e=>ih e
theorem ae.set {α β:Type} {R:α->β->Prop} {a:α} {b:β} (hr:R a b) {l:List α} {m:List β} (h:ae R l m): ∀(i:Nat),ae R (l.set i a) (m.set i b):=by
 induction h with
 |nil=>exact λi=> .nil
 |cons h t ih=>exact λi=>match i with
  |0=> .cons hr t
  |i+1=> .cons h (ih i)
theorem ae.drop {α β:Type} {R:α->β->Prop} {l:List α} {m:List β} (h:ae R l m): ∀(i:Nat),ae R (l.drop i) (m.drop i):=by
 induction h with
 |nil=>exact λi=>by rw [List.drop_nil,List.drop_nil];exact .nil
 |cons h t ih=>exact λi=>match i with
  |0=> .cons h t
  |i+1=>ih i
theorem ae.take {α β:Type} {R:α->β->Prop} {l:List α} {m:List β} (h:ae R l m): ∀(i:Nat),ae R (l.take i) (m.take i):=by
 induction h with
 |nil=>exact λi=>by rw [List.take_nil,List.take_nil];exact .nil
 |cons h t ih=>exact λi=>match i with
  |0=> .nil
  |i+1=> .cons h (ih i)
theorem ae.reverse {α β:Type} {R:α->β->Prop} {l:List α} {m:List β} (h:ae R l m):ae R l.reverse m.reverse:=by
 induction h with
 |nil=>exact .nil
 |cons h _ ih=>rw [List.reverse_cons,List.reverse_cons];exact ae.append (.cons h .nil) ih
theorem ae.len {α β:Type} {R:α->β->Prop} {l:List α} {m:List β} (h:ae R l m):l.length=m.length:=h.length
theorem ae.app {α β:Type} {R:α->β->Prop} {l₂:List α} {m₂:List β} (h₂:ae R l₂ m₂) {l:List α} {m:List β} (h:ae R l m):ae R (l++l₂) (m++m₂):=h₂.append h
theorem ae.flip {α β:Type} {R:α->β->Prop} {l:List α} {m:List β} (h:ae R l m):ae (λb a=>R a b) m l:=by
 induction h with
 |nil=>exact .nil
 |cons h _ ih=>exact .cons h ih
theorem ae.get {α β:Type} {R:α->β->Prop} {l:List α} {m:List β} (h:ae R l m) {i:Nat} {b:β} (e:m[i]?=some b): ∃a,l[i]?=some a/\R a b:=h.flip.get' e
theorem ae.chg {α β:Type} {R R':α->β->Prop} {P:α->Prop} {Q:α->α->Prop} (f: ∀a b,R a b->P a-> ∃a',R' a' b/\Q a a') {l:List α} {m:List β} (h:ae R l m):(∀a∈l,P a)-> ∃l',ae R' l' m/\ae Q l l':=by
 induction h with
 |nil=>exact λ_=>⟨[], .nil, .nil⟩
 |cons h _ ih=>exact λhp=>let ⟨a',h1,h2⟩:=f _ _ h (hp _ (.head _));let ⟨l',h3,h4⟩:=ih λa ha=>hp a (.tail _ ha);⟨a'::l', .cons h1 h3, .cons h2 h4⟩
theorem ae.right {α β:Type} {R:α->β->Prop} {P:β->Prop} (f: ∀a b,R a b->P b) {l:List α} {m:List β} (h:ae R l m): ∀b∈m,P b:=by
 induction h with
 |nil=>exact λb h=>absurd h List.not_mem_nil
 |cons h _ ih=>exact List.forall_mem_cons.mpr ⟨f _ _ h,ih⟩
theorem ae.map_eq {α β γ:Type} {R:α->β->Prop} {f:α->γ} {g:β->γ} (h: ∀a b,R a b->g b=f a) {l:List α} {m:List β} (x:ae R l m):m.map g=l.map f:=by
 induction x with
 |nil=>rfl
 |cons x _ ih=>rw [List.map_cons,List.map_cons,h _ _ x,ih]
theorem ae.zip {α β:Type} {R:α->β->Prop} {l:List α} {m:List β} (x:ae R l m): ∀p∈l.zip m,R p.1 p.2:=by
 induction x with
 |nil=>exact λb h=>absurd h List.not_mem_nil
 |cons h _ ih=>exact List.forall_mem_cons.mpr ⟨h,ih⟩
theorem ae.wm {α β:Type} {R:α->β->Prop} {l:List α}: ∀{m:List β},l.length=m.length->(∀p∈l.zip m,R p.1 p.2)->ae R l m:=by
 induction l with
 |nil=>intro m h _;cases m with
  |nil=>exact .nil
  |cons _ _=>exact nomatch h
 |cons a l ih=>intro m h f;cases m with
  |nil=>exact nomatch h
  |cons b m=>exact .cons (f (a,b) (.head _)) (ih (Nat.succ.inj h) λp hp=>f p (.tail _ hp))
theorem ae.snoc {α β:Type} {R:α->β->Prop} {a:α} {b:β} (h:R a b) {l:List α} {m:List β} (x:ae R l m):ae R (l++ [a]) (m++ [b]):=ae.append (.cons h .nil) x
theorem HR{a:Nat}(h1:(a≤1000000)):(a≤16777216):=by grind-abstractProof
theorem Us:(0≤64):=Nat.zero_le 64
theorem TJ{a:Int}(h1:((Int.natAbs a)=0)):((a:Int)=0):=Int.natAbs_eq_zero.mp h1
theorem Pd{a:Int}(h1:((Int.natAbs a)<1000000000000)):((Int.natAbs a)<9223372036854775808):=Nat.lt_trans h1 (by decide)
theorem Uj{a:Nat}(h1:(a<63)):((a+1)≤64):=Nat.le_succ_of_le h1
theorem Pe{a b:Nat}(h1:((a+b)≤1000000)):((a+b)≤16777216):=HR h1
theorem U9{a b:Int}(h1:(((0:Int)≤a)/\(((a:Int)<256)/\((b:Int)=4)))):((0:Int)≤b):=h1.2.2▸(by decide:(0:Int)≤4)
theorem Tv{a b:Nat}(h1:(((a+(40*b))+200)<9900)):(a<9900):=by lia-abstractProof
theorem UL{a b:Nat}(h1:(((a+(40*b))+200)<9900)):((a+1)<9900):=Nat.lt_of_le_of_lt (Nat.add_le_add (Nat.le_add_right a (40*b)) (by decide:1≤200)) h1
theorem OZ{a:Nat}(h1:(a≤1000000)):(a≤1099511627776):=by lia-abstractProof
theorem Ai{a:Int}(h1:((Int.natAbs a)<1000000000000)):((a:Int)<9223372036854775808):=Int.lt_of_le_of_lt Int.le_natAbs (Int.ofNat_lt.2 (Nat.lt_trans h1 (by decide)))
theorem QD{a:Int}(h1:((0:Int)≤a)):(((-9223372036854775808):Int)≤a):=Int.le_trans (by decide) h1
theorem vE{a:Nat}:(¬((((a:Nat):Int):Int)<0)):=Int.not_ofNat_neg a
theorem o7{a b:Nat}(h1:(¬(a≤b))):(b≤a):=Nat.le_of_not_ge h1
theorem Sk{a b c:Nat}(h1:(¬(a≤b))):((b-c)≤(a-c)):=Nat.sub_le_sub_right (Nat.le_of_lt (Nat.lt_of_not_le h1)) c
theorem QO{b:Nat}{a:Int}(h1:(((0:Int)≤a)/\((a:Int)<256)))(h2:(b=(Int.toNat a))):(b<256):=h2▸(Int.toNat_lt h1.1).2 h1.2
theorem Qg{a:Nat}(h1:(a<256)):(a<256):=by omega
theorem RY{a:Nat}(h1:((((a:Nat):Int):Int)<9223372036854775808)):(¬((((a:Nat):Int):Int)≥9223372036854775808)):=Int.not_le.mpr h1
theorem GL{a:Nat}(h1:(a<256)):(((0:Int)≤((a:Nat):Int))/\((((a:Nat):Int):Int)<256)):=⟨Int.natCast_nonneg a,Int.ofNat_lt.2 h1⟩
theorem ID{a:Nat}(h1:(a≤1000000)):((((a:Nat):Int):Int)<9223372036854775808):=by grind-abstractProof
theorem QK{a b c:Nat}(h1:((a+(b+1))≤c)):(((a+1)+b)≤c):=by rw[Nat.add_right_comm];exact h1
theorem Rg{a b:Nat}:((a+(b+1))=((a+1)+b)):=Eq.symm (Nat.succ_add_eq_add_succ a b)
theorem QX{a b:Nat}(h1:(a≤b)):(((((a:Nat):Int)-((b:Nat):Int)):Int)≤0):=by grind-abstractProof
theorem Qs{a:Nat}(h1:(a<5000)):(a≤16777216):=by lia-abstractProof
theorem Rq{a b c:Nat}(h1:(((a+(40*(b+1)))+180)<c)):((((a+3)+(40*b))+200)<c):=Nat.lt_of_le_of_lt (by rw[Nat.add_right_comm a 3];exact Nat.add_le_add_left (by decide:203≤220) (a+40*b)) h1
theorem QC{a b c:Nat}(h1:((a+(4*(b+1)))<(c+2))):(((a+1)+(4*b))<c):=Nat.lt_of_le_of_lt (by rw[Nat.add_right_comm];exact Nat.le_succ _) (Nat.lt_of_succ_lt_succ (Nat.lt_of_succ_lt_succ h1))
theorem QT{a:Nat}:(2≤(4*(a+1))):=Nat.le_of_ble_eq_true rfl
theorem Si{a:Nat}(h1:(a≤1000000)):((a+1)≤16777216):=by lia-abstractProof
theorem Qy{a b:Nat}(h1:((a+b)≤1000000))(h2:(16777216=16777216)):((a+b)≤16777216):=Pe h1
theorem R2{a b:Nat}(h1:((a+b)≤1000000))(h2:(16777216=16777216)):(a≤16777216):=by lia-abstractProof
theorem Ri{a b:Nat}(h1:((a+b)≤1000000))(h2:(16777216=16777216)):((a+b)≤(16777216+1)):=by grind-abstractProof
theorem I1{a:Nat}:(0<(a+1)):=Nat.zero_lt_succ a
theorem Rn:(0<(0+1)):=I1
theorem RV{a b c d e:Nat}:(((a+b)+((c+d)+e))=(((d+c)+a)+(e+b))):=by grind-abstractProof
theorem RB{a b c:Nat}:(((a+b)+c)=(a+(b+c))):=Nat.add_assoc a b c
theorem Rf{a b c:Nat}:(((a+b)+c)=(c+(b+a))):=by lia-abstractProof
theorem QN{a b c:Nat}(h1:(a≤b)):(a≤(c+(b+1))):=Nat.le_trans (Nat.le_succ_of_le h1) (Nat.le_add_left (b+1) c)
theorem RX{a b c:Nat}(h1:(a≤((b+1)+c))):(a≤(b+(c+1))):=by rw[Nat.add_right_comm] at h1;exact h1
theorem QV{a b:Nat}(h1:(a≤(b+1))):(a≤(b+1)):=by omega
theorem Rj{a b:Nat}(h1:(a≤(b+1))):(a≤((b+1)+1)):=Nat.le_add_right_of_le h1
theorem Rw{a b:Nat}(h1:(a<b)):(((min (a+1) b)-a)=1):=by rw[Nat.min_eq_left h1];exact Nat.add_sub_cancel_left a 1
theorem RC{a b:Nat}(h1:(a<b)):((a+1)≤b):=Nat.succ_le_of_lt h1
theorem zL{a b:Nat}(h1:((a+0)=b)):(b≤a):=Nat.le_of_eq (id (Eq.symm h1))
theorem Rd{a b c:Nat}(h1:((a+(b+1))=c)):(a<c):=h1▸Nat.lt_add_of_pos_right (Nat.succ_pos b)
theorem HB{a b c:Nat}(h1:((a+(b+1))=c)):(((a+1)+b)=c):=(Nat.add_right_comm a 1 b).trans h1
theorem vI{a b:Nat}(h1:(a≤b)):(a≤(b+1)):=Nat.le_add_right_of_le h1
theorem Sl{a b c d:Nat}(h1:(a≤b))(h2:((b+(c+1))=d)):(a≤(min b d)):=Nat.le_min.2 ⟨h1,Nat.le_trans h1 (h2▸Nat.le_add_right b (c+1))⟩
theorem Qz{a:Nat}:((0+a)=a):=Nat.zero_add a
theorem R3{a b:Nat}(h1:(a≤1000000))(h2:(b≤a)):(b≤16777216):=by lia-abstractProof
theorem Sf{a b c d:Nat}(h1:(a≤1000000))(h2:(b=c))(h3:(c≤(d+1)))(h4:(d=a))(h5:(16777216=16777216)):(b≤16777216):=by subst h2 h4;exact Nat.le_trans h3 (Nat.le_trans (Nat.succ_le_succ h1) (by decide))
theorem Rc{a:Nat}(h1:(a≤1000000)):(¬(a>16777216)):=by grind-abstractProof
theorem QZ{a b c:Nat}(h1:(((a+(40*b))+200)<c)):((((a+1)+(40*b))+180)<c):=Nat.lt_of_le_of_lt (by rw[Nat.add_right_comm a 1];exact Nat.add_le_add_left (by decide:181≤200) (a+40*b)) h1
theorem Ql{a b c:Nat}(h1:((a+(4*b))<c)):(((a+1)+(4*b))<(c+2)):=by rw[Nat.add_right_comm];exact Nat.succ_lt_succ (Nat.lt_succ_of_lt h1)
theorem RL{a:Nat}(h1:(a≤15)):(a≤16777216):=by lia-abstractProof
theorem R6{a:Nat}(h1:(a<20)):(a<30):=Nat.lt_trans h1 (by decide)
theorem Rk{a:Int}(h1:(((0:Int)≤a)/\((a:Int)≤4000))):((((((((-9223372036854775808):Int)≤0)/\((0:Int)<9223372036854775808))/\((((-9223372036854775808):Int)≤a)/\((a:Int)<9223372036854775808)))/\((((-9223372036854775808):Int)≤1)/\((1:Int)<9223372036854775808)))/\((((-9223372036854775808):Int)≤(((Int.toNat a):Nat):Int))/\(((((Int.toNat a):Nat):Int):Int)<9223372036854775808)))/\((((((Int.toNat a):Nat):Int):Int)=0)∨((((-9223372036854775808):Int)≤(a+(1-1)))/\(((a+(1-1)):Int)<9223372036854775808)))):=have e:=Int.toNat_of_nonneg h1.1;have x:(-9223372036854775808:Int)≤a:=Int.le_trans (by decide) h1.1;have y:a<9223372036854775808:=Int.lt_of_le_of_lt h1.2 (by decide);⟨⟨⟨⟨⟨by decide,by decide⟩,x,y⟩,by decide,by decide⟩,e.symm▸⟨x,y⟩⟩,.inr (Int.add_zero a|>.symm▸⟨x,y⟩)⟩
theorem GK{a b c:Nat}(h1:((a-b)<(c+1)))(h2:(b<a)):((a-(b+1))<c):=Nat.lt_of_lt_of_le (Nat.pred_lt (Nat.sub_ne_zero_of_lt h2)) (Nat.le_of_lt_succ h1)
theorem zN{a:Nat}(h1:(a≤1000)):(a<5000):=by grind-abstractProof
theorem RQ{a:Nat}(h1:(a<256)):(¬((255:Int)<((a:Nat):Int))):=by lia-abstractProof
theorem Sd{a:Nat}(h1:(a≤1000)):(a≤1000000):=by lia-abstractProof
theorem Ru{a b:Nat}(h1:(a≤b)):(¬(b<a)):=Nat.not_lt.mpr h1
theorem Sb{a b:Nat}(h1:(a=(2*b))):(((a+1)+1)=(2*(b+1))):=Nat.succ_inj.mpr (congrFun (congrArg HAdd.hAdd h1) 1)
theorem GY{a:Nat}(h1:(a<256)):((((a:Nat):Int):Int)<256):=Int.ofNat_lt.2 h1
theorem R8{a:Nat}(h1:(a<256)):((a/16)<16):=Nat.div_lt_of_lt_mul h1
theorem Qi{a:Nat}:((a%16)<16):=Nat.mod_lt a (by decide)
theorem Ra{a b:Nat}(h1:(a≤1000)):((2*(min b a))<1000000):=Nat.lt_of_le_of_lt (Nat.mul_le_mul_left 2 (Nat.le_trans (Nat.min_le_right b a) h1)) (by decide)
theorem Rm{a b:Nat}(h1:(a≤1000)):(((2*(min b a))+1)<1000000):=Nat.lt_of_le_of_lt (Nat.succ_le_succ (Nat.mul_le_mul_left 2 (Nat.le_trans (Nat.min_le_right b a) h1))) (by decide)
theorem Se{a:Nat}(h1:(a≤1000)):((2*a)≤1000000):=by grind-abstractProof
theorem RD{a:Nat}(h1:(a<10)):(((48+(((a:Nat):Int)%10)):Int)=(((48+a):Nat):Int)):=congrArg (λ x:Nat=>((48+x:Nat):Int)) (Nat.mod_eq_of_lt h1)
theorem Qv{a:Nat}(h1:(a<10)):(a<1000000000000):=Nat.lt_trans h1 (by decide)
theorem Sj{a:Nat}:((0:Int)≤((a:Nat):Int)):=Int.natCast_nonneg a
theorem QR{a:Nat}(h1:(a<10)):((((a:Nat):Int):Int)<10):=Int.lt_toNat.mp h1
theorem RJ{a:Nat}(h1:(a<10)):((48+a)<256):=Nat.lt_trans (Nat.add_lt_add_left h1 48) (by decide)
theorem Qr{a b:Nat}:(((a+1)+b)=(a+(b+1))):=Eq.symm Rg
theorem QY{a b c:Nat}(h1:(a≤1000000))(h2:(b≤a))(h3:(b=c)):(c≤1000000):=h3▸Nat.le_trans h2 h1
theorem I8{a b c:Nat}(h1:(a≤b)):(a≤(b+c)):=Nat.le_add_right_of_le h1
theorem RE{a b c d e:Nat}(h1:(a≤b))(h2:(c≤(d+(1*(b+e))))):(((a+e)+c)≤((d+(1*(b+e)))+(1*(b+e)))):=by rw[Nat.add_comm];exact Nat.add_le_add h2 (by rw[Nat.one_mul];exact Nat.add_le_add_right h1 e)
theorem RN{a b:Nat}(h1:(a≤6)):(a≤(14+(3*(b+12)))):=Nat.le_trans h1 (Nat.le_trans (by decide:6≤14) (Nat.le_add_right 14 _))
theorem RG:(1≤3):=Nat.le_of_ble_eq_true rfl
theorem R9{a:Nat}:(9≤(22+(3*(a+12)))):=Nat.le_add_left 9 (Nat.add 22 (Nat.mul 3 (a+9)))
theorem Rl{a:Nat}(h1:(a≤(22+(3*(0+12))))):(a≤(60*1)):=Nat.le_trans h1 (by decide)
theorem So{a b:Nat}(h1:(a≤b)):((((a:Nat):Int):Int)≤((b:Nat):Int)):=Int.ofNat_le.mpr h1
theorem Qu{a b:Nat}(h1:(¬(a≤b))):(¬((((a:Nat):Int):Int)≤((b:Nat):Int))):=by omega
theorem Qm{a:Nat}(h1:(a≤6)):(a≤999999):=by lia-abstractProof
theorem Ax{a b:Nat}(h1:(¬(a≤b))):(0<a):=by grind-abstractProof
theorem RI{a b:Nat}(h1:(a≤6))(h2:(b≤900000)):(((a+(0+1))+b)≤1000000):=by lia-abstractProof
theorem RU{a b:Nat}(h1:(a≤6))(h2:(b≤900000)):((((a+(0+1))+b)+(0+1))≤1000000):=by grind-abstractProof
theorem QL{a:Nat}(h1:(a≤100)):((a+(0+1))≤1000000):=by lia-abstractProof
theorem QQ{a:Nat}(h1:(a≤1)):(a<10):=by grind-abstractProof
theorem R7{a:Nat}(h1:(a≤100)):(((a+(0+1))+(0+1))≤1000000):=by grind-abstractProof
theorem Qf{a:Nat}(h1:(a≤100)):((((a+(0+1))+(0+1))+(0+1))≤1000000):=by lia-abstractProof
theorem Sn{a:Nat}(h1:(a≤3)):(a<10):=Nat.lt_of_le_of_lt h1 (by decide)
theorem QA{a:Nat}(h1:(a≤100)):(((((a+(0+1))+(0+1))+(0+1))+(0+1))≤1000000):=by lia-abstractProof
theorem Rx{a:Nat}(h1:(a=3)):(a≤1000):=by lia-abstractProof
theorem ze{a:Nat}(h1:(a≤3)):((a-0)<5000):=by grind-abstractProof
theorem RZ{a b c:Nat}(h1:(a≤b))(h2:(c=b))(h3:(c<a)):False:=by grind-abstractProof
theorem Qp{a b:Nat}(h1:(a≤(60*b)))(h2:(b≤4096)):((((((((((((0+1)+1)+1)+1)+1)+1)+1)+1)+1)+(0+1))+a)≤1000000):=Nat.le_trans (Nat.add_le_add_left (Nat.le_trans h1 (Nat.mul_le_mul_left 60 h2)) _) (by decide)
theorem Lh{a b c:Nat}(h1:(a≤1024))(h2:(b≤(60*a)))(h3:(c≤10)):((c+b)≤((60*1024)+10)):=by rw[Nat.add_comm];exact Nat.add_le_add (Nat.le_trans h2 (Nat.mul_le_mul_left 60 h1)) h3
theorem Of{a:Nat}(h1:(a≤6)):(a≤900100):=by lia-abstractProof
theorem LV{a b:Nat}(h1:(a≤6))(h2:(b≤900000)):((((a+(0+1))+b)+(0+1))≤900100):=Nat.le_trans (Nat.succ_le_succ (Nat.add_le_add (Nat.le_trans (Nat.succ_le_succ h1) (by decide:7≤99)) h2)) (by decide)
theorem NC{a:Nat}(h1:(a≤6)):(((0+1)+a)≤1000000):=by grind-abstractProof
theorem Oi{a:Nat}(h1:(a≤6)):((((0+1)+a)+(0+1))≤1000000):=by grind-abstractProof
theorem Lc{a b:Nat}(h1:(a≤900100))(h2:(b≤6)):(((((0+1)+b)+(0+1))+a)≤1000000):=Nat.le_trans (Nat.add_le_add (Nat.add_le_add_right (Nat.add_le_add_left h2 _) _) h1) (by decide)
theorem Kc{a b:Nat}:((((3*a)+6)+b)=((((3*a)+3)+b)+3)):=by lia-abstractProof
theorem KG{a:Nat}:((((((a+1):Nat):Int)-1):Int)=((a:Nat):Int)):=Int.sub_eq_iff_eq_add.mpr rfl
theorem LA{a b:Nat}:(((((3*a)+3)+b)+6)=(((3*(a+1))+6)+b)):=Nat.add_right_comm (3*a+3) b 6
theorem Lg{a:Nat}(h1:(a≤60)):(¬((60:Int)<((a:Nat):Int))):=by lia-abstractProof
theorem C7{a:Nat}:((a+1)≠a):=Ne.symm (Nat.ne_add_one a)
theorem Mq{a b:Nat}(h1:(a=(b+1))):(a≠b):=by grind-abstractProof
theorem O6{a:Nat}:((a+2)≠a):=by lia-abstractProof
theorem O5{a b c:Nat}(h1:(a=(b+1)))(h2:(c=(a+1))):((b+2)=c):=by lia-abstractProof
theorem Lq{a b:Nat}(h1:(a≤(60*b))):((a+1)≤((60*b)+1)):=Nat.add_le_add_right h1 1
theorem L6{a b c:Nat}(h1:(a≤4096))(h2:(b≤c))(h3:(c≤(3*(((60*a)+1)+0)))):(b≤1000000):=Nat.le_trans h2 (Nat.le_trans h3 (Nat.le_trans (Nat.mul_le_mul_left 3 (Nat.succ_le_succ (Nat.mul_le_mul_left 60 h1))) (by decide)))
theorem LS{a:Nat}(h1:(a≤6)):(a≤60):=by lia-abstractProof
theorem Mk{a:Nat}:(a≤(a+1)):=Nat.le_add_right a 1
theorem LR{a:Nat}:(a≤(a+2)):=Nat.le_add_right a 2
theorem Ll{a:Nat}:((a+1)≠(a+2)):=Ne.symm C7
theorem Ku{a b:Nat}(h1:(a≤6)):((((3*a)+6)+((26-((3*a)+6))+b))=(b+26)):=by rw[←Nat.add_assoc,Nat.add_sub_cancel' (Nat.le_trans (Nat.add_le_add_right (Nat.mul_le_mul_left 3 h1) 6) (by decide)),Nat.add_comm]
theorem N2{a b:Nat}(h1:(a≤(60*b)))(h2:(b≤4096)):((a+(0+1))≤1000000):=Nat.le_trans (Nat.succ_le_succ (Nat.le_trans h1 (Nat.mul_le_mul_left 60 h2))) (by decide)
theorem NB{a:Nat}(h1:(0<a)):((((a:Nat):Int):Int)≠0):=Int.natCast_ne_zero_iff_pos.mpr h1
theorem vW{a:Nat}(h1:(0<a)):((0:Int)<((a:Nat):Int)):=Int.natCast_pos.mpr h1
theorem O9{a:Nat}{b:Int}(h1:(0<a))(h2:((b:Int)<((a:Nat):Int))):((Int.toNat b)<a):=(Int.toNat_lt' h1).mpr h2
theorem KY{a:Nat}(h1:((a+1)≤63)):(a≤1000000):=by lia-abstractProof
theorem pR{a:Int}(h1:((0:Int)≤a))(h2:((a:Int)<1000003)):((Int.natAbs a)<1000000000000):=Int.ofNat_lt.1 (by rw[Int.natAbs_of_nonneg h1];exact Int.lt_trans h2 (by decide))
theorem NK{a b:Int}(h1:(((((a*4801)+61)%1000003):Int)=b)):((Int.natAbs b)<1000000000000):=h1▸pR (Int.emod_nonneg _ (by decide)) (Int.emod_lt_of_pos _ (by decide))
theorem O8{a:Nat}(h1:(a≤63)):(a≤1000000):=by lia-abstractProof
theorem NA{a:Nat}:((min 60 a)≤60):=Nat.min_le_left 60 a
theorem Cq{a:Nat}(h1:(a≤60)):((a-0)<5000):=Nat.lt_of_le_of_lt h1 (by decide)
theorem pQ{a b:Nat}(h1:(a=b)):(¬(b<a)):=by grind-abstractProof
theorem Ls{a:Nat}(h1:(a≤60)):(a≤63):=by grind-abstractProof
theorem NV{a:Nat}(h1:(a<1000)):(a<1000000000000):=by lia-abstractProof
theorem N9{a b:Nat}(h1:((0<a)/\(a≤5)))(h2:(a=b)):(b≤1000000):=h2▸Nat.le_trans h1.2 (by decide)
theorem NW{a b:Nat}(h1:((0<a)/\(a≤5)))(h2:(a=b)):(0<b):=by lia-abstractProof
theorem vR{a b c:Nat}(h1:(a=b))(h2:(c<b)):(c<a):=Nat.lt_of_lt_of_eq h2 (id (Eq.symm h1))
theorem LI{a b c:Nat}(h1:((0<a)/\(a≤5)))(h2:(a=b))(h3:(c<b)):(c<1000):=Nat.lt_of_lt_of_le h3 (h2▸Nat.le_trans h1.2 (by decide))
theorem uP{a:Nat}(h1:(a≤10)):((a-0)<5000):=by lia-abstractProof
theorem Nb{a:Nat}(h1:(a<2)):(((97+a)=97)∨((97+a)=98)):=by decide+revert
theorem M9{a:Nat}(h1:(a<2)):((2+a)≤3):=by grind-abstractProof
theorem KN{a b c d:Nat}(h1:(a≤10))(h2:(b=c))(h3:(c<a))(h4:(b=d)):(d<1000000):=by subst h2 h4;exact Nat.lt_of_lt_of_le h3 (Nat.le_trans h1 (by decide))
theorem Oc{a:Nat}(h1:(a≤4000)):((((a:Nat):Int):Int)≤4000):=Nat.ToInt.of_le rfl rfl h1
theorem Ms{a b c d:Nat}(h1:(a≤5))(h2:(b=c))(h3:(b=(min d a))):(c<1000000):=by subst h2 h3;exact Nat.lt_of_le_of_lt (Nat.le_trans (Nat.min_le_right d a) h1) (by decide)
theorem NF{a:Nat}(h1:(a<2)):(2≤(3-a)):=Nat.le_sub_of_add_le (Nat.add_le_add_left (Nat.le_of_lt_succ h1) 2)
theorem M0{a:Nat}:((3-a)≤3):=Nat.sub_le 3 a
theorem Lz{a b:Nat}(h1:((0<a)/\(a≤5)))(h2:(a=b)):((b-0)<5000):=by grind-abstractProof
theorem LM{a:Nat}(h1:(a<3)):((2+a)≤4000):=by grind-abstractProof
theorem LW{a:Nat}(h1:(a<3)):((2+a)≤10):=by grind-abstractProof
theorem Nh{a b:Nat}(h1:(a<3))(h2:(b=(2+a))):((0<b)/\(b≤5)):=h2▸⟨Nat.lt_of_lt_of_le (by decide) (Nat.le_add_right 2 a),Nat.add_le_add_left (Nat.le_of_lt h1) 2⟩
theorem Ou{a:Nat}(h1:(a<2)):((2+a)≤4000):=Nat.le_trans (Nat.add_le_add_left (Nat.le_of_lt h1) 2) (by decide)
theorem NG{a:Nat}(h1:(a<2)):((2+a)≤10):=Nat.le_trans (Nat.add_le_add_left (Nat.le_of_lt h1) 2) (by decide)
theorem N3{a b c:Nat}(h1:(a<3))(h2:(b=(2+a)))(h3:(c=b)):((2≤c)/\(c≤8)):=by subst h3 h2;exact ⟨Nat.le_add_right 2 a,Nat.le_trans (Nat.add_le_add_left (Nat.le_of_lt h1) 2) (by decide)⟩
theorem KA{a b:Nat}(h1:(a<2))(h2:(b=(2+a))):((2≤b)/\(b≤3)):=h2▸⟨Nat.le_add_right 2 a,Nat.add_le_add_left (Nat.le_of_lt_succ h1) 2⟩
theorem Lu{a b c:Nat}(h1:(a<3))(h2:(b=(2+a)))(h3:(c=b)):(c≤5):=by subst h3 h2;exact Nat.add_le_add_left (Nat.le_of_lt h1) 2
theorem O4{a b:Nat}(h1:(a≤100))(h2:(a=b)):((b-0)<5000):=by lia-abstractProof
theorem Lp{a:Nat}(h1:(a≤6)):(a≤1000000):=by grind-abstractProof
theorem MU{a b c:Nat}(h1:(a≤8))(h2:((min b a)=c)):(c<1000000):=h2▸Nat.lt_of_le_of_lt (Nat.le_trans (Nat.min_le_right b a) h1) (by decide)
theorem LL{a:Nat}(h1:(a=3)):((a-0)<5000):=by lia-abstractProof
theorem Lb{a b:Nat}(h1:(a=b))(h2:((2≤a)/\(a≤8))):((b-0)<5000):=by lia-abstractProof
theorem Od{a:Nat}(h1:((2≤a)/\(a≤3))):(a≤100):=by grind-abstractProof
theorem BJ{a b:Nat}(h1:(2≤a))(h2:((b=0)∨(b=1))):(b≠a):=by grind-abstractProof
theorem MH{a:Nat}(h1:((a=0)∨(a=2))):(a≠4):=by lia-abstractProof
theorem BH{a:Nat}(h1:((a=0)∨(a=1))):(a≠4):=by grind-abstractProof
theorem Mx{a:Nat}(h1:((a=0)∨(a=2))):(a≠3):=by lia-abstractProof
theorem Lv{a:Nat}(h1:((a=0)∨(a=1))):(a≠3):=λ e=>by subst e;exact absurd h1 (by decide)
theorem Oj{a:Nat}(h1:(a=2)):(2≤a):=zL h1
theorem Mo{a b:Nat}(h1:(a=2))(h2:((b=0)∨(b=1))):(b≠a):=by lia-abstractProof
theorem Kt{a b:Nat}(h1:(a=1))(h2:((b=0)∨(b=2))):(b≠a):=by lia-abstractProof
theorem Md{a:Int}(h1:(((0:Int)≤a)/\((a:Int)<1000))):((Int.natAbs a)<1000000000000):=pR h1.1 (Int.lt_trans h1.2 (by decide))
theorem Mp{a:Nat}(h1:((a=97)∨(a=98))):(a≤195):=by lia-abstractProof
theorem Kn{a:Nat}(h1:((a=97)∨(a=98))):(((195-a)=97)∨((195-a)=98)):=h1.elim (λ h=>.inr (h▸rfl)) (λ h=>.inl (h▸rfl))
theorem Nr{a b c:Nat}(h1:(a=b))(h2:(c=a))(h3:((2≤c)/\(c≤5))):(b≤1000000):=by grind-abstractProof
theorem NO{a b c:Nat}(h1:(a=b))(h2:(c=a))(h3:((2≤c)/\(c≤5))):(0<b):=by grind-abstractProof
theorem CE{a b c d:Nat}(h1:(a=b))(h2:(c=a))(h3:((2≤c)/\(c≤5)))(h4:(d<b)):(d<1000):=by subst h1 h2;exact Nat.lt_trans h4 (Nat.lt_of_le_of_lt h3.2 (by decide))
theorem Lx{a:Nat}(h1:((2≤a)/\(a≤3))):(a≤5):=by grind-abstractProof
theorem Le{a:Nat}(h1:((2≤a)/\(a≤3))):((2≤(5-a))/\((5-a)≤3)):=⟨Nat.sub_le_sub_left h1.2 5,Nat.sub_le_sub_left h1.1 5⟩
theorem Cm{a b c:Nat}(h1:(a=b))(h2:(c<a)):(c<b):=vR (id (Eq.symm h1)) h2
theorem Ky{a b:Nat}(h1:((2≤a)/\(a≤5)))(h2:(b<a)):(b<1000):=CE rfl rfl h1 h2
theorem Kx{a:Nat}(h1:(a≤3)):(a≤1000000):=by grind-abstractProof
theorem Oh{a b c:Nat}(h1:(a=b))(h2:(c=a))(h3:((2≤c)/\(c≤5))):(b<1000000):=by subst h1 h2;exact Nat.lt_of_le_of_lt h3.2 (by decide)
theorem L7{a:Nat}(h1:((a=0)∨(a=1))):(4≠a):=Ne.symm (BH h1)
theorem Nc{a b c:Nat}(h1:(a=b))(h2:(c=a))(h3:((2≤c)/\(c≤5))):(b≤999999):=by lia-abstractProof
theorem MP{a:Nat}(h1:((2≤a)/\(a≤5))):(1≤a):=by lia-abstractProof
theorem LZ{a:Nat}(h1:((2≤a)/\(a≤5))):(a≤5):=by grind-abstractProof
theorem Nn{a:Nat}(h1:(a≤3)):(a≤5):=by lia-abstractProof
theorem Ly{a:Nat}(h1:(a≤3)):(2≤(5-a)):=Nat.sub_le_sub_left h1 5
theorem L8{a:Nat}(h1:(2≤a)):((5-a)≤3):=Nat.sub_le_sub_left h1 5
theorem Ln{a:Nat}(h1:(a≤1)):(a<1000000000000):=Nat.lt_of_le_of_lt h1 (by decide)
theorem Li{a:Nat}(h1:(a≤1)):(((1-((a:Nat):Int)):Int)=(((1-a):Nat):Int)):=(Int.ofNat_sub h1).symm
theorem L0{a b:Nat}(h1:((2≤(a+b))/\((a+b)≤3))):((((((b:Nat):Int)+(2*((a:Nat):Int)))-1):Int)=((((b+(2*a))-1):Nat):Int)):=(Int.ofNat_sub (Nat.le_trans (Nat.le_of_lt h1.1) (by lia))).symm
theorem Ks{a b:Nat}(h1:(a≤1))(h2:((2≤(a+b))/\((a+b)≤3))):(((1-a)+((b+(2*a))-1))=(a+b)):=by rcases Nat.le_one_iff_eq_zero_or_eq_one.1 h1 with rfl|rfl;{rw[Nat.zero_add] at h2⊢;exact Nat.add_sub_cancel' (Nat.le_of_lt h2.1)};{rw[Nat.zero_add];exact Nat.add_comm b 1}
theorem LD{a:Nat}:((1-a)≤1):=Nat.sub_le 1 a
theorem Ki{a b:Nat}(h1:(a≤1))(h2:((2≤(a+b))/\((a+b)≤3))):(((b+(2*a))-1)≤3):=Nat.sub_le_sub_right (show b+2*a≤4 by rw[Nat.two_mul,←Nat.add_assoc,Nat.add_comm b];exact Nat.add_le_add h2.2 h1) 1
theorem LU{a:Nat}(h1:(¬(a=0))):((((a:Nat):Int):Int)≠0):=Int.ofNat_ne_zero.mpr h1
theorem Mh{a:Nat}(h1:((((a:Nat):Int):Int)=3)):(a=3):=Eq.symm ((λ{m n}=>Int.ofNat_inj.mp) (id (Eq.symm h1)))
theorem Ov{a:Nat}(h1:((a≤9)/\(0<a))):(a≤1000000):=by grind-abstractProof
theorem Kr{a b:Nat}(h1:((a≤9)/\(0<a)))(h2:(b<a)):(b<1000):=Nat.lt_of_lt_of_le h2 (Nat.le_trans h1.1 (by decide))
theorem N0{a b:Nat}(h1:(a≤3))(h2:(a=b)):(b≤1000000):=by grind-abstractProof
theorem LX{a b:Nat}(h1:(1≤a))(h2:(a=b)):(0<b):=vR (id (Eq.symm h2)) h1
theorem Nm{a b c:Nat}(h1:(a≤3))(h2:(a=b))(h3:(c<b)):(c<1000):=Nat.lt_of_lt_of_le h3 (h2▸Nat.le_trans h1 (by decide))
theorem MG{a b:Nat}(h1:((2≤a)/\(a≤3)))(h2:(b=a)):(1≤b):=by lia-abstractProof
theorem LG{a b:Nat}(h1:((2≤a)/\(a≤3)))(h2:(b=a)):(b≤3):=by grind-abstractProof
theorem Lo{a b c:Nat}(h1:((2≤a)/\(a≤5)))(h2:(b=c))(h3:(a=b)):((c-0)<5000):=by subst h3 h2;exact Nat.lt_of_le_of_lt h1.2 (by decide)
theorem KJ{a b c d:Nat}(h1:((2≤a)/\(a≤5)))(h2:(b=c))(h3:(a=b))(h4:(d≤c)):((1+d)≤1000000):=by subst h3 h2;exact Nat.le_trans (Nat.add_le_add_left (Nat.le_trans h4 h1.2) 1) (by decide)
theorem Mw{a b c d e:Nat}(h1:((2≤a)/\(a≤5)))(h2:(b=c))(h3:(a=b))(h4:(d≤c))(h5:(e=(d+1))):((e≤9)/\(0<e)):=by subst h2 h3 h5;exact ⟨Nat.succ_le_succ (Nat.le_trans h4 (Nat.le_trans h1.2 (by decide))),Nat.succ_pos d⟩
theorem KW{a b c:Nat}(h1:(a≤3))(h2:((min b a)=c)):(c<1000000):=h2▸Nat.lt_of_le_of_lt (Nat.le_trans (Nat.min_le_right b a) h1) (by decide)
theorem Na{a b c:Nat}(h1:(a=b))(h2:(b≤8))(h3:(c<a)):(c<1000):=Nat.lt_trans h3 (h1▸Nat.lt_of_le_of_lt h2 (by decide))
theorem Oq{a b:Nat}(h1:(a≤3))(h2:(a=b)):((b-0)<5000):=by grind-abstractProof
theorem Ml{a b:Nat}(h1:(a≤99))(h2:(b≤a)):(b≤100):=by lia-abstractProof
theorem Nq{a b:Nat}(h1:((a+(b+1))≤100)):(a≤99):=Nat.le_of_succ_le_succ (Nat.le_trans (Nat.succ_le_succ (Nat.le_add_right a b)) h1)
theorem NY{a b:Nat}(h1:((a+(b+1))≤100)):(((a+1)+b)≤100):=QK h1
theorem MY{a b c:Nat}(h1:(a≤8))(h2:(b<a))(h3:(c=b)):(c<1000000):=by subst h3;exact Nat.lt_trans h2 (Nat.lt_of_le_of_lt h1 (by decide))
theorem Cu{a b c:Nat}(h1:(a<b))(h2:(b≤c)):(a≠(c+1)):=Nat.ne_of_lt (Nat.lt_succ_of_lt (Nat.lt_of_lt_of_le h1 h2))
theorem C9{a b:Nat}(h1:(¬(a<b))):(b≤a):=Nat.le_of_not_lt h1
theorem Kk{a b c:Nat}(h1:(a=b))(h2:(¬(c<a)))(h3:((c-a)=0)):(c=b):=h1▸Nat.le_antisymm (Nat.le_of_sub_eq_zero h3) (Nat.le_of_not_lt h2)
theorem Cs{a b:Nat}(h1:(a≤8))(h2:(a=b)):((b-0)<5000):=h2▸Nat.lt_of_le_of_lt h1 (by decide)
theorem Cb{a b c:Nat}(h1:(a=b))(h2:(c<a)):(c<(min a b)):=by subst h1;rw[Nat.min_self];exact h2
theorem Mr{a b c:Nat}(h1:(¬(a<b))):((min b c)≤a):=Nat.le_trans (Nat.min_le_left b c) (Nat.le_of_not_lt h1)
theorem NQ{a b:Nat}(h1:(¬(a=b)))(h2:(a<(b+1))):(a<b):=Nat.lt_of_le_of_ne (Nat.le_of_lt_succ h2) h1
theorem KO{a b:Nat}(h1:((a+1)≤b)):(a≤b):=Nat.le_of_succ_le h1
theorem CS{a b c:Nat}(h1:(a≤b))(h2:((c+1)<a)):(b≠(c+1)):=(Nat.ne_of_lt (Nat.lt_of_lt_of_le h2 h1)).symm
theorem Lr{a b:Nat}(h1:((2≤a)/\(a≤3)))(h2:(a=b)):((0+b)≤1000000):=(Nat.zero_add b).symm▸h2▸Nat.le_trans h1.2 (by decide)
theorem BQ{a b c:Nat}(h1:(a<b))(h2:(c≤a)):(c≤(b+1)):=Nat.le_succ_of_le (Nat.le_trans h2 (Nat.le_of_lt h1))
theorem BY{a b:Nat}(h1:(a<b)):(a≠(b+1)):=by grind-abstractProof
theorem Mg{a b c:Nat}(h1:(a<b))(h2:(c≤a)):(c≤b):=by grind-abstractProof
theorem Cp{a b c:Nat}(h1:(a=b))(h2:(b=c)):((min a c)=b):=by subst h1 h2;exact Nat.min_self _
theorem LH{a:Nat}(h1:(a≤8)):((a-0)<5000):=Cs h1 rfl
theorem uX{a b c:Nat}(h1:(a=b))(h2:(b=c)):(a=c):=by grind-abstractProof
theorem O7{a:Nat}(h1:(a<40)):(a≤1000000):=Nat.le_trans (Nat.le_of_lt h1) (by decide)
theorem Me{a:Nat}(h1:(a<40)):(¬((40:Int)≤((a:Nat):Int))):=by lia-abstractProof
theorem Mi{a:Nat}(h1:(a<40)):(a<1000000):=by grind-abstractProof
theorem Nk{a b c:Nat}(h1:(a≤b))(h2:(c≤a)):(c≤(b+1)):=by grind-abstractProof
theorem BB{a b:Nat}(h1:((2≤a)/\(a≤3)))(h2:(a=b)):((b-0)<5000):=by lia-abstractProof
theorem NU{a b c:Nat}(h1:((2≤a)/\(a≤3)))(h2:(a=b)):((min c b)<40):=by subst h2;exact Nat.lt_of_le_of_lt (Nat.le_trans (Nat.min_le_right c a) h1.2) (by decide)
theorem KR{a b:Nat}(h1:(a=b)):(¬(a<b)):=pQ (id (Eq.symm h1))
theorem MC{a b c:Nat}(h1:(a<b))(h2:(a<c)):(a<(min b c)):=Nat.lt_min.2 ⟨h1,h2⟩
theorem MI{a b c:Nat}(h1:(a=b))(h2:(b=0))(h3:(c≤b)):(a=c):=by subst h1 h2;exact (Nat.le_zero.1 h3).symm
theorem Kb{a b:Nat}(h1:(a<b)):(a<(min b b)):=Cb rfl h1
theorem NP{a b c d e f:Nat}(h1:(a=b))(h2:(c=d))(h3:((a+c)=e))(h4:((b+d)=f)):(e=f):=by grind-abstractProof
theorem l0{a b:Nat}(h1:((48+a)=(48+b))):(a=b):=Nat.add_left_cancel h1
theorem Nu{a b:Nat}(h1:(a=3))(h2:(b=3)):(a=b):=uX h1 (id (Eq.symm h2))
theorem MV{a b c:Nat}(h1:(a=b))(h2:(c≤a)):(c≤b):=le_of_le_of_eq h2 h1
theorem Oo{a b c:Nat}(h1:(a=b))(h2:(¬(c≤a))):(¬(c≤b)):=Eq.mpr_not (congrArg (LE.le c) (id (Eq.symm h1))) h2
theorem BD:(¬(0<0)):=pQ rfl
theorem Nz{a b c:Nat}(h1:(a≤b))(h2:((b≤c)/\(c≤(b+1)))):(a≤c):=by lia-abstractProof
theorem Og{a b:Nat}(h1:((a≤b)/\(b≤(a+1)))):((b≤(a+1))/\((a+1)≤(b+1))):=⟨h1.2,Nat.succ_le_succ h1.1⟩
theorem Ma{a b c:Nat}(h1:((a-b)≤c)):((a-(b+1))≤(c-1)):=Nat.pred_le_pred h1
theorem Lf{a b:Nat}(h1:(a=b)):((a+1)=(b+1)):=uX rfl (congrFun (congrArg HAdd.hAdd h1) 1)
theorem MJ{a:Nat}(h1:(a≤100)):(a≤1000000):=by grind-abstractProof
theorem C5{a b c d:Nat}(h1:(a=b))(h2:(a=c))(h3:(b=d)):((min c d)=a):=by subst h1 h2 h3;exact Nat.min_self _
theorem Cn{a b c d:Nat}(h1:(a=b))(h2:(a=c))(h3:(b=d)):(c=d):=by lia-abstractProof
theorem NJ{a b:Nat}:((min a b)≤a):=Nat.min_le_left a b
theorem Kz{a b c d e f:Nat}(h1:(a≤3))(h2:((b+1)≤c))(h3:((2≤c)/\(c≤8)))(h4:((min a d)=e))(h5:(f≤(3+(3*b)))):((f+e)≤1000000):=h4▸Nat.le_trans (Nat.add_le_add (Nat.le_trans h5 (Nat.add_le_add_left (Nat.mul_le_mul_left 3 (Nat.le_trans (Nat.le_of_lt h2) h3.2)) 3)) (Nat.le_trans (Nat.min_le_left a d) h1)) (by decide)
theorem Kw{a b c d e:Nat}(h1:(a≤3))(h2:((min a b)=c))(h3:(d≤(3+(3*e)))):((d+c)≤(3+(3*(e+1)))):=by subst h2;exact (Nat.add_le_add h3 (Nat.le_trans (Nat.min_le_left a b) h1):_≤(3+3*e)+3)
theorem Ld{a b c d e f:Nat}(h1:(((a+3)+(4*(b-(c+1))))<d))(h2:(e≤3)):(((a+(min e f))+(4*(b-(c+1))))<d):=Nat.lt_of_le_of_lt (Nat.add_le_add_right (Nat.add_le_add_left (Nat.le_trans (Nat.min_le_left e f) h2) a) _) h1
theorem Mt{a b c d:Nat}(h1:(((a+3)+(4*(b-(c+1))))<d)):((a+(4*(b-(c+1))))<d):=Nat.lt_of_le_of_lt (Nat.add_le_add_right (Nat.le_add_right a 3) _) h1
theorem BP{a b:Nat}(h1:(a≤b))(h2:((2≤b)/\(b≤8))):(a≤100):=Nat.le_trans h1 (Nat.le_trans h2.2 (by decide))
theorem LO{a:Nat}:((3+(3*a))≤(3+(3*(a+1)))):=by grind-abstractProof
theorem Bt{a b:Nat}(h1:(a<b))(h2:((2≤b)/\(b≤8))):(a<1000):=by lia-abstractProof
theorem Mb{a b c d:Nat}(h1:((a+(4*(b-c)))<d))(h2:((c+1)≤b)):(((a+3)+(4*(b-(c+1))))<d):=by rw[←Nat.succ_pred_eq_of_pos (Nat.sub_pos_of_lt h2)] at h1;exact Nat.lt_of_le_of_lt (by rw[Nat.add_right_comm];exact Nat.le_succ _) h1
theorem Oe{a b c:Nat}(h1:(a≤(3+(3*b))))(h2:(b≤c))(h3:((2≤c)/\(c≤8))):(a≤1000000):=Nat.le_trans h1 (Nat.le_trans (Nat.add_le_add_left (Nat.mul_le_mul_left 3 (Nat.le_trans h2 h3.2)) 3) (by decide))
theorem Nl{a b:Nat}(h1:(a<b)):((((a:Nat):Int):Int)<((b:Nat):Int)):=Int.ofNat_lt.mpr h1
theorem KD{a b c d:Nat}(h1:(((a+1)+(4*(b-c)))<(d+1))):((a+(4*(b-c)))<d):=by rw[Nat.add_right_comm] at h1;exact Nat.lt_of_succ_lt_succ h1
theorem Kg{a b c d:Nat}(h1:(a≤b))(h2:(b≤(3+(3*c))))(h3:(c≤d))(h4:((2≤d)/\(d≤8))):(a<1000):=Nat.lt_of_le_of_lt (Nat.le_trans h1 (Nat.le_trans h2 (Nat.add_le_add_left (Nat.mul_le_mul_left 3 (Nat.le_trans h3 h4.2)) 3))) (by decide)
theorem ML{a b:Nat}(h1:(¬(a<b))):(¬((((a:Nat):Int):Int)<((b:Nat):Int))):=λ h=>h1 (Int.ofNat_lt.1 h)
theorem NS{a b:Nat}(h1:(a=b)):((min a b)=a):=Cp rfl h1
theorem NR{a:Nat}(h1:((2≤a)/\(a≤3))):((a-0)<5000):=BB h1 rfl
theorem MR{a:Nat}(h1:((2≤a)/\(a≤3))):(a≤(3+(3*0))):=by lia-abstractProof
theorem NZ{a b:Nat}(h1:((2≤a)/\(a≤3)))(h2:((2≤b)/\(b≤8))):((a+(4*(b-0)))<5000):=Nat.lt_of_le_of_lt (Nat.add_le_add h1.2 (Nat.mul_le_mul_left 4 h2.2)) (by decide)
theorem Lj{a b c:Nat}(h1:(a≤4096))(h2:(b≤c))(h3:(c≤(3*(((60*a)+1)+0)))):(b≤900000):=Nat.le_trans h2 (Nat.le_trans h3 (Nat.le_trans (Nat.mul_le_mul_left 3 (Nat.succ_le_succ (Nat.mul_le_mul_left 60 h1))) (by decide)))
theorem vq{a b:Nat}(h1:(((1+(1*((a:Nat):Int))):Int)=(1+(1*((b:Nat):Int))))):(a=b):=by lia-abstractProof
theorem Bu{a b:Nat}(h1:(a=b))(h2:((2≤a)/\(a≤3))):(b≤1000000):=by grind-abstractProof
theorem uG{a:Nat}(h1:((2≤a)/\(a≤8))):(a≤9):=by grind-abstractProof
theorem Mv{a:Nat}(h1:(a≤900000)):(a≤1000000):=by lia-abstractProof
theorem O0{a b:Nat}(h1:(a≤900000))(h2:(b≤(a+1))):(b≤1000000):=by grind-abstractProof
theorem NI{a b c:Nat}(h1:(a=b))(h2:((a+1)≤c)):(¬((((c:Nat):Int):Int)<((b:Nat):Int))):=λ h=>Nat.lt_irrefl a (Nat.lt_trans (Nat.lt_of_succ_le h2) (h1▸Int.ofNat_lt.1 h))
theorem Nf{a:Nat}(h1:(a<4)):(a<1000):=by lia-abstractProof
theorem LP{a:Nat}(h1:(a<4)):((a=0)∨((a=1)∨((a=2)∨(a=3)))):=by decide+revert
theorem CF{a b c:Nat}(h1:(a<b))(h2:(b≤c)):(a<c):=Nat.lt_of_lt_of_le h1 h2
theorem MS{a b:Nat}(h1:(2≤a))(h2:(a≤6))(h3:(b=a)):((2≤b)/\(b≤8)):=by subst h3;exact ⟨h1,Nat.le_trans h2 (by decide)⟩
theorem MT{a:Nat}(h1:(¬(0<a))):(¬((0:Int)<((a:Nat):Int))):=by omega
inductive BOp|add|sub|mul|mod|div|shr|band
inductive COp|eq|ne|lt|le|gt|ge|is|isnot|isin|l9
inductive SK|of|range|zip
set_option genInjectivity true in
set_option genCtorIdx false in
inductive AV
 |none|bool (b:Bool)|int (i:Int)|str (c:Nat)|chr (c:Nat)|bytes (l:List Nat)|gJ (x:Nat)|ref (n:Nat)|bg
noncomputable def AV.ctorIdx (v:AV):Nat:= @AV.casesOn (λ_=>Nat) v 0 (λ_=>1) (λ_=>2) (λ_=>3) (λ_=>4) (λ_=>5) (λ_=>6) (λ_=>7) 8
set_option genCtorIdx false in
inductive NT|name (x:Nat)|tup (ts:List NT)
noncomputable def NT.ctorIdx (v:NT):Nat:= @NT.rec (λ_=>Nat) (λ_=>Nat) (λ_=>0) (λ_ _=>1) 0 (λ_ _ _ _=>0) v
set_option genCtorIdx false in
inductive IE
 |lit (v:AV)|var (x:Nat)|glob (x:Nat)
 |bin (o:BOp) (a b:IE)|cmp (o:COp) (a b:IE)|not (a:IE)|and (a b:IE)|or (a b:IE)|ite (c a b:IE)
 |attr (a:IE) (x:Nat)|idx (a i:IE)|sl (a:IE) (lo:Nat) (hi:Option Nat)|rev (a:IE)
 |list (es:List IE)|tup (es:List IE)|dict (ks:List Nat) (es:List IE)
 |call (f:IE) (es:List IE)|bc (o:IE) (m:Nat) (es:List IE)
 |comp (elt:IE) (t:NT) (k:SK) (es:List IE) (ifs:List IE) (free:List Nat)
 |fail
set_option genCtorIdx false in
inductive IS
 |expr (e:IE)|asg (t:NT) (e:IE)|aA (o:IE) (x:Nat) (e:IE)|dM (o i e:IE)|lx (o1 i1 o2 i2 e:IE)
 |ret (e:IE)|iff (c:IE) (a b:List IS)|kS (c:IE) (b:List IS)|cY (t:NT) (k:SK) (es:List IE) (b:List IS)
 |cont|fail
structure Fn where
 params:List Nat
 cW:List AV
 body:List IS
noncomputable def aN:List String:= ["numbers","text","sign","ord","number","bytes","signs","found","octets","octet","append","rest","thing","kind","packed","array","dict","value","is_in_array","string","body","access","save","body_of","bool","isinstance","int","decimal_octets","hex_octets","str","octets_of","one","flat_value_octets","join","teller","depth","OperandTeller","machine","operands","things","told","left","mixed","script","cell","deck","pop","many","_law_draw","integer","sizes","len","size","start","go","get","bodies","_law_item","stack","sheet","list","lists","row","spot","way","Thing","made","Span","first","Text","Row","DictBody","step","_law_things","extend","entries","word","name","Limits","Memory","Stack","MachineCore","push","near","far","other","mates","backs","at","level","looks","it","mate","to","_law_deck","_law_sheet","_law_copied","_law_turned","_law_machine","was","operand_octets","split","_law_first_unlike","self","is_exec","bytearray","is_global","most","UNLIMITED","key","MOST_DEPTH","min","known","left_of","BODY_KINDS","access_of","shared","flat_key","is_new","ahead","within","pairs","memory","dicts","scanner","limits","disk","begin","files","out","frames","table","system","globals","user","gs","gstack","device","fonts","resources","steps","random","FIRST_SEED","is_packing","is_stopped","tracer","errors","fault","current","saves","journal","freed","used","used_global","last_body","last_save","gstates","path","dash","vm","PostError","b","law","file","gstate"]
noncomputable def rG:List IS:=
 [
 .asg (.name 0) (.comp (.call (.glob 3) [(.var 2)]) (.name 2) .of [(.var 1)] [] []),
 .cY (.name 4) .of [(.var 0)]
  [
   .iff (.cmp .gt (.var 4) (.lit (.int 255)))
    [
    .fail]
    []],
 .ret (.call (.glob 5) [(.var 0)])]
noncomputable def pJ:List IS:=
 [
 .asg (.name 6) (.lit (.bytes [48,49,50,51,52,53,54,55,56,57,97,98,99,100,101,102])),
 .asg (.name 7) (.list []),
 .cY (.name 9) .of [(.var 8)]
  [
   .expr (.bc (.var 7) 10 [(.idx (.var 6) (.bin .shr (.var 9) (.lit (.int 4))))]),
   .expr (.bc (.var 7) 10 [(.idx (.var 6) (.bin .band (.var 9) (.lit (.int 15))))])],
 .ret (.call (.glob 5) [(.var 7)])]
noncomputable def lC:List IS:=
 [
 .asg (.name 11) (.ite (.cmp .ge (.var 4) (.lit (.int 0))) (.var 4) .fail),
 .asg (.name 7) (.list [(.bin .add (.lit (.int 48)) (.bin .mod (.var 11) (.lit (.int 10))))]),
 .asg (.name 11) (.bin .div (.var 11) (.lit (.int 10))),
 .kS (.cmp .gt (.var 11) (.lit (.int 0)))
  [
   .expr (.bc (.var 7) 10 [(.bin .add (.lit (.int 48)) (.bin .mod (.var 11) (.lit (.int 10))))]),
   .asg (.name 11) (.bin .div (.var 11) (.lit (.int 10)))],
 .iff (.cmp .lt (.var 4) (.lit (.int 0)))
  [
   .expr (.bc (.var 7) 10 [(.lit (.int 45))])]
  [],
 .ret (.call (.glob 5) [(.rev (.var 7))])]
noncomputable def og:List IS:=
 [
 .ret (.or (.cmp .eq (.attr (.var 12) 13) (.lit (.str 15))) (.cmp .eq (.attr (.var 12) 13) (.lit (.str 14))))]
noncomputable def vP:List IS:=
 [
 .iff (.cmp .eq (.attr (.var 12) 13) (.lit (.str 16)))
  [
   .ret (.attr (.var 12) 17)]
  [],
 .ret (.ite (.or (.cmp .eq (.attr (.var 12) 13) (.lit (.str 19))) (.call (.glob 18) [(.var 12)])) (.attr (.attr (.var 12) 17) 20) (.lit .none))]
noncomputable def rj:List IS:=
 [
 .ret (.ite (.cmp .eq (.attr (.var 12) 13) (.lit (.str 16))) (.attr (.attr (.var 12) 17) 21) (.attr (.var 12) 21))]
noncomputable def sV:List IS:=
 [
 .iff (.cmp .eq (.attr (.var 12) 13) (.lit (.str 22)))
  [
   .ret (.tup [(.lit (.str 22)),(.attr (.var 12) 17)])]
  [],
 .asg (.name 20) (.call (.glob 23) [(.var 12)]),
 .ret (.ite (.cmp .isnot (.var 20) (.lit .none)) (.tup [(.lit (.str 20)),(.attr (.var 20) 4)]) (.tup [(.attr (.var 12) 13),(.attr (.attr (.var 12) 17) 4)]))]
noncomputable def jo:List IS:=
 [
 .iff (.cmp .is (.var 17) (.lit .none))
  [
   .ret (.lit (.bytes [110]))]
  [],
 .iff (.call (.glob 25) [(.var 17),(.glob 24)])
  [
   .ret (.ite (.var 17) (.lit (.bytes [116])) (.lit (.bytes [102])))]
  [],
 .iff (.call (.glob 25) [(.var 17),(.glob 26)])
  [
   .ret (.call (.glob 27) [(.var 17)])]
  [],
 .iff (.call (.glob 25) [(.var 17),(.glob 5)])
  [
   .ret (.bin .add (.bin .add (.lit (.bytes [60])) (.call (.glob 28) [(.var 17)])) (.lit (.bytes [62])))]
  [],
 .iff (.call (.glob 25) [(.var 17),(.glob 29)])
  [
   .ret (.bin .add (.lit (.bytes [39])) (.call (.glob 30) [(.var 17)]))]
  [],
 .ret (.bin .add (.bin .add (.lit (.bytes [40])) (.bc (.lit (.bytes [32])) 33 [(.comp (.call (.glob 32) [(.var 31)]) (.name 31) .of [(.var 17)] [] [])])) (.lit (.bytes [41])))]
noncomputable def ly:List IS:=
 [
 .asg (.name 34) (.call (.glob 36) [(.var 35)]),
 .ret (.bc (.lit (.bytes [])) 33 [(.comp (.bin .add (.bc (.var 34) 40 [(.var 12),(.attr (.var 34) 35)]) (.lit (.bytes [10]))) (.name 12) .of [(.attr (.attr (.var 37) 38) 39)] [] [34])])]
noncomputable def qR:List IS:=
 [
 .asg (.tup [(.name 41),(.name 42)]) (.tup [(.comp (.bin .mod (.call (.glob 26) [(.var 44)]) (.lit (.int 1000003))) (.name 44) .of [(.sl (.var 43) 0 (some 60))] [] []),(.lit (.int 4711))]),
 .cY (.name 44) .of [(.var 41)]
  [
   .asg (.name 42) (.bin .mod (.bin .add (.bin .add (.bin .mul (.var 42) (.lit (.int 33))) (.var 44)) (.lit (.int 5))) (.lit (.int 1000003)))],
 .ret (.dict [41,42] [(.var 41),(.var 42)])]
noncomputable def rE:List IS:=
 [
 .iff (.cmp .ne (.idx (.var 45) (.lit (.str 41))) (.list []))
  [
   .ret (.bin .mod (.bc (.idx (.var 45) (.lit (.str 41))) 46 [(.lit (.int 0))]) (.var 47))]
  [],
 .dM (.var 45) (.lit (.str 42)) (.bin .mod (.bin .add (.bin .mul (.idx (.var 45) (.lit (.str 42))) (.lit (.int 4801))) (.lit (.int 61))) (.lit (.int 1000003))),
 .ret (.bin .mod (.bin .div (.idx (.var 45) (.lit (.str 42))) (.lit (.int 7))) (.var 47))]
noncomputable def k9:List IS:=
 [
 .iff (.cmp .eq (.call (.glob 48) [(.var 45),(.lit (.int 3))]) (.lit (.int 2)))
  [
   .ret (.list [(.lit (.str 49)),(.call (.glob 48) [(.var 45),(.lit (.int 3))])])]
  [],
 .asg (.name 4) (.call (.glob 48) [(.var 45),(.call (.glob 51) [(.var 50)])]),
 .asg (.tup [(.name 13),(.name 52)]) (.idx (.var 50) (.var 4)),
 .asg (.name 53) (.ite (.cmp .ne (.var 13) (.lit (.str 16))) (.call (.glob 48) [(.var 45),(.lit (.int 2))]) (.lit (.int 0))),
 .ret (.list [(.var 13),(.var 4),(.var 53),(.bin .sub (.var 52) (.var 53)),(.cmp .eq (.call (.glob 48) [(.var 45),(.lit (.int 4))]) (.lit (.int 3))),(.bin .sub (.lit (.int 3)) (.call (.glob 26) [(.cmp .eq (.call (.glob 48) [(.var 45),(.lit (.int 4))]) (.lit (.int 3)))]))])]
noncomputable def fH:List IS:=
 [
 .asg (.name 50) (.list []),
 .cY (.name 54) .range [(.bin .add (.lit (.int 2)) (.call (.glob 48) [(.var 45),(.lit (.int 3))]))]
  [
   .asg (.name 13) (.idx (.list [(.lit (.str 15)),(.lit (.str 15)),(.lit (.str 19)),(.lit (.str 16))]) (.call (.glob 48) [(.var 45),(.lit (.int 4))])),
   .expr (.bc (.var 50) 10 [(.tup [(.var 13),(.bc (.dict [15,19] [(.bin .add (.lit (.int 2)) (.call (.glob 48) [(.var 45),(.lit (.int 2))])),(.lit (.int 3))]) 55 [(.var 13),(.lit (.int 1))])])])],
 .asg (.name 56) (.list []),
 .cY (.tup [(.name 13),(.name 52)]) .of [(.var 50)]
  [
   .iff (.cmp .eq (.var 13) (.lit (.str 19)))
    [
    .expr (.bc (.var 56) 10 [(.list [(.var 13),(.comp (.bin .add (.lit (.int 97)) (.call (.glob 48) [(.var 45),(.lit (.int 2))])) (.name 54) .range [(.var 52)] [] [45]),(.lit (.int 3))])])]
    [
    .expr (.bc (.var 56) 10 [(.list [(.var 13),(.comp (.call (.glob 57) [(.var 45),(.var 50)]) (.name 54) .range [(.var 52)] [] [45,50]),(.bin .sub (.lit (.int 3)) (.call (.glob 48) [(.var 45),(.lit (.int 2))]))])])]],
 .ret (.dict [56,58] [(.var 56),(.comp (.call (.glob 57) [(.var 45),(.var 50)]) (.name 54) .range [(.bin .add (.lit (.int 2)) (.call (.glob 48) [(.var 45),(.lit (.int 2))]))] [] [45,50])])]
noncomputable def iI:List IS:=
 [
 .asg (.name 56) (.list []),
 .cY (.tup [(.name 13),(.name 39),(.name 21)]) .of [(.idx (.var 59) (.lit (.str 56)))]
  [
   .expr (.bc (.var 56) 10 [(.list [(.var 13),(.comp (.ite (.cmp .ne (.var 13) (.lit (.str 19))) (.call (.glob 60) [(.var 31)]) (.var 31)) (.name 31) .of [(.var 39)] [] [13]),(.var 21)])])],
 .ret (.dict [56,58] [(.var 56),(.comp (.call (.glob 60) [(.var 31)]) (.name 31) .of [(.idx (.var 59) (.lit (.str 58)))] [] [])])]
noncomputable def bY:List IS:=
 [
 .asg (.name 61) (.bin .add (.list [(.idx (.var 59) (.lit (.str 58)))]) (.comp (.var 39) (.tup [(.name 13),(.name 39),(.name 21)]) .of [(.idx (.var 59) (.lit (.str 56)))] [(.cmp .ne (.var 13) (.lit (.str 19)))] [])),
 .asg (.name 62) (.idx (.var 61) (.call (.glob 48) [(.var 45),(.call (.glob 51) [(.var 61)])])),
 .asg (.tup [(.name 63),(.name 64)]) (.tup [(.call (.glob 48) [(.var 45),(.call (.glob 51) [(.var 62)])]),(.call (.glob 48) [(.var 45),(.lit (.int 6))])]),
 .asg (.name 31) (.idx (.var 62) (.var 63)),
 .iff (.cmp .eq (.var 64) (.lit (.int 0)))
  [
   .asg (.name 20) (.idx (.idx (.var 59) (.lit (.str 56))) (.call (.glob 48) [(.var 45),(.call (.glob 51) [(.idx (.var 59) (.lit (.str 56)))])])),
   .iff (.cmp .eq (.idx (.var 20) (.lit (.int 0))) (.lit (.str 19)))
    [
    .dM (.idx (.var 20) (.lit (.int 1))) (.lit (.int 1)) (.bin .sub (.lit (.int 195)) (.idx (.idx (.var 20) (.lit (.int 1))) (.lit (.int 1))))]
    [
    .dM (.var 20) (.lit (.int 2)) (.bin .sub (.lit (.int 5)) (.idx (.var 20) (.lit (.int 2))))]]
  [
   .iff (.cmp .eq (.idx (.var 31) (.lit (.int 0))) (.lit (.str 49)))
    [
    .dM (.var 31) (.lit (.int 1)) (.bin .add (.idx (.var 31) (.lit (.int 1))) (.lit (.int 1)))]
    [
    .iff (.cmp .lt (.var 64) (.lit (.int 3)))
     [
      .asg (.tup [(.name 13),(.name 39),(.name 21)]) (.idx (.idx (.var 59) (.lit (.str 56))) (.idx (.var 31) (.lit (.int 1)))),
      .expr (.bc (.idx (.var 59) (.lit (.str 56))) 10 [(.list [(.var 13),(.call (.glob 60) [(.var 39)]),(.var 21)])]),
      .dM (.var 31) (.lit (.int 1)) (.bin .sub (.call (.glob 51) [(.idx (.var 59) (.lit (.str 56)))]) (.lit (.int 1)))]
     [
      .iff (.and (.cmp .eq (.var 64) (.lit (.int 3))) (.cmp .ne (.idx (.var 31) (.lit (.int 0))) (.lit (.str 16))))
       [
       .lx (.var 31) (.lit (.int 2)) (.var 31) (.lit (.int 3)) (.tup [(.bin .sub (.lit (.int 1)) (.idx (.var 31) (.lit (.int 2)))),(.bin .sub (.bin .add (.idx (.var 31) (.lit (.int 3))) (.bin .mul (.lit (.int 2)) (.idx (.var 31) (.lit (.int 2))))) (.lit (.int 1)))])]
       [
       .iff (.cmp .eq (.var 64) (.lit (.int 4)))
        [
         .dM (.var 31) (.lit (.int 4)) (.not (.idx (.var 31) (.lit (.int 4))))]
        [
         .dM (.var 31) (.lit (.int 5)) (.bin .sub (.lit (.int 5)) (.idx (.var 31) (.lit (.int 5))))]]]]]]
noncomputable def iO:List IS:=
 [
 .asg (.name 7) (.list []),
 .cY (.name 31) .of [(.var 62)]
  [
   .iff (.cmp .eq (.idx (.var 31) (.lit (.int 0))) (.lit (.str 49)))
    [
    .expr (.bc (.var 7) 10 [(.call (.glob 65) [(.lit (.str 49)),(.idx (.var 31) (.lit (.int 1))),(.lit (.bool false)),(.lit (.int 3))])])]
    [
    .iff (.cmp .eq (.idx (.var 31) (.lit (.int 0))) (.lit (.str 16)))
     [
      .expr (.bc (.var 7) 10 [(.call (.glob 65) [(.lit (.str 16)),(.idx (.var 66) (.idx (.var 31) (.lit (.int 1)))),(.idx (.var 31) (.lit (.int 4))),(.lit (.int 3))])])]
     [
      .expr (.bc (.var 7) 10 [(.call (.glob 65) [(.idx (.var 31) (.lit (.int 0))),(.call (.glob 67) [(.idx (.var 66) (.idx (.var 31) (.lit (.int 1)))),(.idx (.var 31) (.lit (.int 2))),(.idx (.var 31) (.lit (.int 3)))]),(.idx (.var 31) (.lit (.int 4))),(.idx (.var 31) (.lit (.int 5)))])])]]],
 .ret (.var 7)]
noncomputable def cR:List IS:=
 [
 .asg (.tup [(.name 66),(.name 4)]) (.tup [(.list []),(.var 68)]),
 .cY (.tup [(.name 13),(.name 39),(.name 21)]) .of [(.idx (.var 59) (.lit (.str 56)))]
  [
   .iff (.cmp .eq (.var 13) (.lit (.str 19)))
    [
    .expr (.bc (.var 66) 10 [(.call (.glob 69) [(.var 4),(.call (.glob 5) [(.var 39)]),(.lit (.bool false)),(.lit (.int 0))])])]
    [
    .expr (.bc (.var 66) 10 [(.ite (.cmp .eq (.var 13) (.lit (.str 15))) (.call (.glob 70) [(.var 4),(.list []),(.lit (.bool false)),(.lit (.int 0))]) (.call (.glob 71) [(.var 4),(.lit (.int 1)),(.lit (.bool false)),(.lit (.int 0))]))])],
   .asg (.name 4) (.bin .add (.var 4) (.var 72))],
 .cY (.tup [(.name 20),(.tup [(.name 13),(.name 39),(.name 21)])]) .zip [(.var 66),(.idx (.var 59) (.lit (.str 56)))]
  [
   .iff (.cmp .eq (.var 13) (.lit (.str 15)))
    [
    .expr (.bc (.attr (.var 20) 39) 74 [(.call (.glob 73) [(.var 66),(.var 39)])])]
    [
    .iff (.cmp .eq (.var 13) (.lit (.str 16)))
     [
      .aA (.var 20) 21 (.var 21),
      .dM (.attr (.var 20) 75) (.tup [(.lit (.str 76)),(.lit (.bytes [97]))]) (.tup [(.call (.glob 65) [(.lit (.str 77)),(.lit (.bytes [97])),(.lit (.bool false)),(.lit (.int 3))]),(.idx (.call (.glob 73) [(.var 66),(.var 39)]) (.lit (.int 0)))])]
     []]],
 .asg (.name 37) (.call (.glob 81) [(.call (.glob 79) [(.call (.glob 78) [])]),(.call (.glob 80) [(.lit (.int 40))]),(.lit .none),(.lit .none),(.call (.glob 78) []),(.dict [] [])]),
 .cY (.name 12) .of [(.call (.glob 73) [(.var 66),(.idx (.var 59) (.lit (.str 58)))])]
  [
   .expr (.bc (.attr (.var 37) 38) 82 [(.var 12)])],
 .ret (.var 37)]
noncomputable def dw:List IS:=
 [
 .asg (.name 41) (.comp (.tup [(.var 31),(.var 85),(.lit (.int 0))]) (.tup [(.name 31),(.name 85)]) .zip [(.idx (.var 83) (.lit (.str 58))),(.idx (.var 84) (.lit (.str 58)))] [] []),
 .asg (.tup [(.name 86),(.name 87),(.name 88)]) (.tup [(.dict [] []),(.dict [] []),(.lit (.int 0))]),
 .kS (.cmp .lt (.var 88) (.call (.glob 51) [(.var 41)]))
  [
   .asg (.tup [(.name 31),(.name 85),(.name 89)]) (.idx (.var 41) (.var 88)),
   .asg (.name 88) (.bin .add (.var 88) (.lit (.int 1))),
   .iff (.or (.cmp .eq (.idx (.var 31) (.lit (.int 0))) (.lit (.str 49))) (.cmp .eq (.idx (.var 85) (.lit (.int 0))) (.lit (.str 49))))
    [
    .iff (.cmp .ne (.var 31) (.var 85))
     [
      .ret (.var 89)]
     [],
    .cont]
    [],
   .asg (.name 90) (.comp (.bin .add (.list [(.idx (.var 91) (.lit (.int 0))),(.idx (.var 91) (.lit (.int 4)))]) (.ite (.cmp .eq (.idx (.var 91) (.lit (.int 0))) (.lit (.str 16))) (.list []) (.bin .add (.sl (.var 91) 2 (some 4)) (.sl (.var 91) 5 none)))) (.name 91) .of [(.tup [(.var 31),(.var 85)])] [] []),
   .iff (.or (.cmp .ne (.idx (.var 90) (.lit (.int 0))) (.idx (.var 90) (.lit (.int 1)))) (.or (.cmp .ne (.bc (.var 86) 55 [(.idx (.var 31) (.lit (.int 1))),(.idx (.var 85) (.lit (.int 1)))]) (.idx (.var 85) (.lit (.int 1)))) (.cmp .ne (.bc (.var 87) 55 [(.idx (.var 85) (.lit (.int 1))),(.idx (.var 31) (.lit (.int 1)))]) (.idx (.var 31) (.lit (.int 1))))))
    [
    .ret (.var 89)]
    [],
   .iff (.cmp .isin (.idx (.var 31) (.lit (.int 1))) (.var 86))
    [
    .cont]
    [],
   .lx (.var 86) (.idx (.var 31) (.lit (.int 1))) (.var 87) (.idx (.var 85) (.lit (.int 1))) (.tup [(.idx (.var 85) (.lit (.int 1))),(.idx (.var 31) (.lit (.int 1)))]),
   .asg (.tup [(.name 20),(.name 92)]) (.tup [(.idx (.idx (.var 83) (.lit (.str 56))) (.idx (.var 31) (.lit (.int 1)))),(.idx (.idx (.var 84) (.lit (.str 56))) (.idx (.var 85) (.lit (.int 1))))]),
   .iff (.and (.cmp .eq (.idx (.var 20) (.lit (.int 0))) (.lit (.str 16))) (.cmp .ne (.idx (.var 20) (.lit (.int 2))) (.idx (.var 92) (.lit (.int 2)))))
    [
    .ret (.var 89)]
    [],
   .iff (.and (.cmp .eq (.idx (.var 20) (.lit (.int 0))) (.lit (.str 19))) (.cmp .ne (.idx (.var 20) (.lit (.int 1))) (.idx (.var 92) (.lit (.int 1)))))
    [
    .ret (.bin .add (.var 89) (.lit (.int 1)))]
    [],
   .iff (.cmp .ne (.idx (.var 20) (.lit (.int 0))) (.lit (.str 19)))
    [
    .expr (.bc (.var 41) 74 [(.comp (.tup [(.var 91),(.var 93),(.bin .add (.var 89) (.lit (.int 1)))]) (.tup [(.name 91),(.name 93)]) .zip [(.idx (.var 20) (.lit (.int 1))),(.idx (.var 92) (.lit (.int 1)))] [] [89])])]
    []],
 .ret (.lit .none)]
noncomputable def rV:List IS:=
 [
 .asg (.name 45) (.call (.glob 94) [(.var 43)]),
 .asg (.name 35) (.idx (.list [(.lit (.int 2)),(.lit (.int 3)),(.lit (.int 6)),(.lit (.int 6))]) (.call (.glob 48) [(.var 45),(.lit (.int 4))])),
 .asg (.name 83) (.call (.glob 95) [(.var 45)]),
 .asg (.name 84) (.call (.glob 96) [(.var 83)]),
 .iff (.cmp .gt (.call (.glob 48) [(.var 45),(.lit (.int 4))]) (.lit (.int 0)))
  [
   .expr (.call (.glob 97) [(.var 45),(.var 84)])]
  [],
 .asg (.tup [(.name 31),(.name 85)]) (.tup [(.call (.glob 98) [(.var 83),(.lit (.int 1)),(.lit (.int 1))]),(.call (.glob 98) [(.var 84),(.lit (.int 900)),(.bin .sub (.lit (.int 0)) (.lit (.int 7)))])]),
 .asg (.name 99) (.call (.glob 60) [(.attr (.attr (.var 31) 38) 39)]),
 .asg (.name 40) (.list [(.call (.glob 100) [(.var 31),(.var 35)]),(.call (.glob 100) [(.var 85),(.var 35)]),(.call (.glob 100) [(.var 31),(.var 35)])]),
 .iff (.or (.cmp .ne (.idx (.var 40) (.lit (.int 0))) (.idx (.var 40) (.lit (.int 2)))) (.or (.cmp .ne (.attr (.attr (.var 31) 38) 39) (.var 99)) (.cmp .lt (.call (.glob 51) [(.bc (.idx (.var 40) (.lit (.int 0))) 101 [(.lit (.bytes [10]))])]) (.call (.glob 51) [(.var 99)]))))
  [
   .ret (.lit (.bool false))]
  [],
 .asg (.name 89) (.call (.glob 102) [(.var 83),(.var 84)]),
 .iff (.cmp .is (.var 89) (.lit .none))
  [
   .ret (.cmp .eq (.idx (.var 40) (.lit (.int 0))) (.idx (.var 40) (.lit (.int 1))))]
  [],
 .ret (.or (.cmp .ge (.var 89) (.var 35)) (.cmp .ne (.idx (.var 40) (.lit (.int 0))) (.idx (.var 40) (.lit (.int 1)))))]
noncomputable def lz:List IS:=
 [
 .aA (.var 103) 13 (.var 13),
 .aA (.var 103) 17 (.var 17),
 .aA (.var 103) 104 (.var 104),
 .aA (.var 103) 21 (.var 21)]
noncomputable def lZ:List IS:=
 [
 .aA (.var 103) 4 (.var 4),
 .aA (.var 103) 8 (.call (.glob 105) [(.var 8)]),
 .aA (.var 103) 106 (.var 106),
 .aA (.var 103) 89 (.var 89)]
noncomputable def nB:List IS:=
 [
 .aA (.var 103) 4 (.var 4),
 .aA (.var 103) 39 (.call (.glob 60) [(.var 39)]),
 .aA (.var 103) 106 (.var 106),
 .aA (.var 103) 89 (.var 89)]
noncomputable def jw:List IS:=
 [
 .aA (.var 103) 4 (.var 4),
 .aA (.var 103) 107 (.var 107),
 .aA (.var 103) 106 (.var 106),
 .aA (.var 103) 89 (.var 89),
 .aA (.var 103) 21 (.glob 108),
 .aA (.var 103) 75 (.dict [] [])]
noncomputable def lF:List IS:=
 [
 .ret (.comp (.idx (.attr (.var 103) 75) (.var 109)) (.name 109) .of [(.attr (.var 103) 75)] [] [103])]
noncomputable def mu:List IS:=
 [
 .aA (.var 103) 20 (.var 20),
 .aA (.var 103) 53 (.var 53),
 .aA (.var 103) 47 (.var 47)]
noncomputable def gf:List IS:=
 [
 .aA (.var 103) 35 (.call (.glob 111) [(.var 35),(.glob 110)]),
 .aA (.var 103) 112 (.dict [] []),
 .aA (.var 103) 113 (.dict [] [])]
noncomputable def eG:List IS:=
 [
 .asg (.name 2) (.ite (.attr (.var 12) 104) (.lit (.bytes [120])) (.lit (.bytes [108]))),
 .iff (.cmp .isin (.attr (.var 12) 13) (.glob 114))
  [
   .ret (.bin .add (.bin .add (.bin .add (.var 2) (.call (.glob 30) [(.attr (.var 12) 13)])) (.call (.glob 27) [(.call (.glob 115) [(.var 12)])])) (.bc (.var 103) 116 [(.var 12),(.var 41)]))]
  [],
 .ret (.bin .add (.bin .add (.var 2) (.call (.glob 30) [(.attr (.var 12) 13)])) (.call (.glob 32) [(.attr (.var 12) 17)]))]
noncomputable def bB:List IS:=
 [
 .asg (.name 109) (.call (.glob 117) [(.var 12)]),
 .asg (.name 118) (.cmp .l9 (.var 109) (.attr (.var 103) 112)),
 .iff (.var 118)
  [
   .dM (.attr (.var 103) 112) (.var 109) (.call (.glob 51) [(.attr (.var 103) 112)])]
  [],
 .asg (.name 119) (.bin .add (.lit (.bytes [35])) (.call (.glob 27) [(.idx (.attr (.var 103) 112) (.var 109))])),
 .iff (.or (.cmp .eq (.attr (.var 12) 13) (.lit (.str 19))) (.call (.glob 18) [(.var 12)]))
  [
   .asg (.name 119) (.bin .add (.bin .add (.bin .add (.bin .add (.var 119) (.lit (.bytes [64]))) (.call (.glob 27) [(.attr (.attr (.var 12) 17) 53)])) (.lit (.bytes [43]))) (.call (.glob 27) [(.attr (.attr (.var 12) 17) 47)]))]
  [],
 .iff (.cmp .eq (.attr (.var 12) 13) (.lit (.str 19)))
  [
   .ret (.ite (.var 118) (.bin .add (.bin .add (.bin .add (.var 119) (.lit (.bytes [60]))) (.call (.glob 28) [(.call (.glob 5) [(.attr (.attr (.attr (.var 12) 17) 20) 8)])])) (.lit (.bytes [62]))) (.var 119))]
  [],
 .iff (.or (.and (.cmp .ne (.attr (.var 12) 13) (.lit (.str 16))) (.not (.call (.glob 18) [(.var 12)]))) (.cmp .le (.var 41) (.bc (.attr (.var 103) 113) 55 [(.var 109),(.lit (.int 0))])))
  [
   .ret (.var 119)]
  [],
 .dM (.attr (.var 103) 113) (.var 109) (.var 41),
 .ret (.bin .add (.bin .add (.bin .add (.var 119) (.lit (.bytes [40]))) (.bc (.lit (.bytes [32])) 33 [(.bc (.var 103) 120 [(.var 12),(.bin .sub (.var 41) (.lit (.int 1)))])])) (.lit (.bytes [41])))]
noncomputable def gQ:List IS:=
 [
 .iff (.cmp .ne (.attr (.var 12) 13) (.lit (.str 16)))
  [
   .ret (.comp (.bc (.var 103) 40 [(.var 31),(.var 41)]) (.name 31) .of [(.attr (.attr (.attr (.var 12) 17) 20) 39)] [] [41,103])]
  [],
 .asg (.name 7) (.list []),
 .cY (.tup [(.name 109),(.name 17)]) .of [(.bc (.attr (.var 12) 17) 121 [])]
  [
   .expr (.bc (.var 7) 10 [(.bin .add (.bin .add (.bc (.var 103) 40 [(.var 109),(.var 41)]) (.lit (.bytes [61]))) (.bc (.var 103) 40 [(.var 17),(.var 41)]))])],
 .ret (.var 7)]
noncomputable def gP:List IS:=
 [
 .expr (.bc (.var 103) 127 [(.var 122),(.var 38),(.var 123),(.var 124),(.var 125),(.var 126)])]
noncomputable def jv:List IS:=
 [
 .aA (.var 103) 122 (.var 122),
 .aA (.var 103) 38 (.var 38),
 .aA (.var 103) 123 (.var 123),
 .aA (.var 103) 124 (.var 124),
 .aA (.var 103) 125 (.var 125),
 .aA (.var 103) 126 (.var 126),
 .aA (.var 103) 128 (.lit .none),
 .aA (.var 103) 129 (.lit .none),
 .aA (.var 103) 130 (.list []),
 .aA (.var 103) 131 (.dict [] []),
 .aA (.var 103) 132 (.lit .none),
 .aA (.var 103) 133 (.lit .none),
 .aA (.var 103) 134 (.lit .none),
 .aA (.var 103) 135 (.lit .none),
 .aA (.var 103) 136 (.lit .none),
 .aA (.var 103) 137 (.lit .none),
 .aA (.var 103) 138 (.lit .none),
 .aA (.var 103) 139 (.lit .none),
 .aA (.var 103) 140 (.lit (.int 0)),
 .aA (.var 103) 141 (.glob 142),
 .aA (.var 103) 143 (.lit (.bool false)),
 .aA (.var 103) 144 (.lit (.bool false)),
 .aA (.var 103) 145 (.lit .none),
 .aA (.var 103) 146 (.lit .none),
 .aA (.var 103) 147 (.lit .none),
 .aA (.var 103) 148 (.lit .none)]
noncomputable def iG:List IS:=
 [
 .aA (.var 103) 125 (.var 125),
 .aA (.var 103) 106 (.lit (.bool false)),
 .aA (.var 103) 149 (.list []),
 .aA (.var 103) 150 (.list []),
 .aA (.var 103) 66 (.dict [] []),
 .aA (.var 103) 151 (.list []),
 .aA (.var 103) 152 (.lit (.int 0)),
 .aA (.var 103) 153 (.lit (.int 0)),
 .aA (.var 103) 154 (.lit (.int 0)),
 .aA (.var 103) 155 (.lit (.int 0))]
noncomputable def kz:List IS:=
 [
 .aA (.var 103) 38 (.var 38),
 .aA (.var 103) 123 (.var 123),
 .aA (.var 103) 130 (.var 130),
 .aA (.var 103) 149 (.var 149),
 .aA (.var 103) 156 (.var 156),
 .aA (.var 103) 1 (.var 1),
 .aA (.var 103) 62 (.var 62),
 .aA (.var 103) 75 (.var 75),
 .aA (.var 103) 76 (.var 76),
 .aA (.var 103) 157 (.var 157),
 .aA (.var 103) 158 (.var 158),
 .aA (.var 103) 128 (.var 128),
 .aA (.var 103) 132 (.var 132),
 .aA (.var 103) 159 (.var 159)]
noncomputable def lE:List IS:=
 [
 .aA (.var 103) 107 (.var 107),
 .aA (.var 103) 39 (.list [])]
noncomputable def pF:List IS:=
 [
 .iff (.cmp .ge (.call (.glob 51) [(.attr (.var 103) 39)]) (.attr (.var 103) 107))
  [
   .fail]
  [],
 .expr (.bc (.attr (.var 103) 39) 10 [(.var 12)])]
noncomputable def yx:List Fn:= [
 ⟨[1], [],rG⟩,
 ⟨[8], [],pJ⟩,
 ⟨[4], [],lC⟩,
 ⟨[12], [],og⟩,
 ⟨[12], [],vP⟩,
 ⟨[12], [],rj⟩,
 ⟨[12], [],sV⟩,
 ⟨[17], [],jo⟩,
 ⟨[37,35], [(.int 6)],ly⟩,
 ⟨[43], [],qR⟩,
 ⟨[45,47], [],rE⟩,
 ⟨[45,50], [],k9⟩,
 ⟨[45], [],fH⟩,
 ⟨[59], [],iI⟩,
 ⟨[45,59], [],bY⟩,
 ⟨[66,62], [],iO⟩,
 ⟨[59,68,72], [],cR⟩,
 ⟨[83,84], [],dw⟩,
 ⟨[43], [],rV⟩,
 ⟨[103,13,17,104,21], [(.bool false),(.int 3)],lz⟩,
 ⟨[103,4,8,106,89], [],lZ⟩,
 ⟨[103,4,39,106,89], [],nB⟩,
 ⟨[103,4,107,106,89], [],jw⟩,
 ⟨[103], [],lF⟩,
 ⟨[103,20,53,47], [],mu⟩,
 ⟨[103,35], [],gf⟩,
 ⟨[103,12,41], [],eG⟩,
 ⟨[103,12,41], [],bB⟩,
 ⟨[103,12,41], [],gQ⟩,
 ⟨[103,122,38,123,124,125,126], [],gP⟩,
 ⟨[103,122,38,123,124,125,126], [],jv⟩,
 ⟨[103,125], [],iG⟩,
 ⟨[103,38,123,130,149,156,1,62,75,76,157,158,128,132,159], [(.int 500),(.int 20),(.int 250),(.int 15),(.int 31),(.int 65535),(.int 65535),(.int 65535),(.int 127),(.int 1500),(.int 11),(.int 15),(.int 600),(.int 16777216)],kz⟩,
 ⟨[103,107], [],lE⟩,
 ⟨[103,12], [],pF⟩]
noncomputable def x7 (f:Nat):Option Fn:=yx[f]?
noncomputable def IJ:List (Nat×Nat):= [(30,0),(28,1),(27,2),(18,3),(23,4),(115,5),(117,6),(32,7),(100,8),(94,9),(48,10),(57,11),(95,12),(96,13),(97,14),(73,15),(98,16),(102,17),(162,18)]
noncomputable def tG (x:Nat):Option Nat:=IJ.lookup x
noncomputable def Gy:List (Nat×Nat):= [(65,19),(69,20),(70,21),(71,22),(67,24),(36,25),(81,29),(79,31),(78,32),(80,33)]
noncomputable def ub (x:Nat):Option Nat:=Gy.lookup x
noncomputable def zE:List (Nat×List (Nat×Nat)):= [(71, [(121,23)]),(36, [(40,26),(116,27),(120,28)]),(81, [(127,30)]),(80, [(82,34)])]
noncomputable def xm (C m:Nat):Option Nat:=match zE.lookup C with|some l=>l.lookup m|none=>none
noncomputable def zZ:List (Nat×List Nat):= [
 (65, [13,17,104,21]),
 (69, [4,8,106,89]),
 (70, [4,39,106,89]),
 (71, [4,107,106,89,21,75]),
 (67, [20,53,47]),
 (36, [35,112,113]),
 (81, [122,38,123,124,125,126,128,129,130,131,132,133,134,135,136,137,138,139,140,141,143,144,145,146,147,148]),
 (79, [125,106,149,150,66,151,152,153,154,155]),
 (78, [38,123,130,149,156,1,62,75,76,157,158,128,132,159]),
 (80, [107,39])]
noncomputable def fld (C x:Nat):Bool:=match zZ.lookup C with|some l=>l.contains x|none=>false
noncomputable def Cw:List (Nat×AV):= [(108, .int 3),(110, .int 60),(142, .int 1)]
noncomputable def qg (x:Nat):Option AV:=Cw.lookup x
noncomputable def vN:List (Nat×List AV):= [(114, [(.str 19),(.str 15),(.str 14),(.str 16),(.str 163),(.str 164),(.str 22)])]
noncomputable def jZ (x:Nat):Option (List AV):=vN.lookup x
set_option genInjectivity true in
set_option genCtorIdx false in
inductive AO
 |list (xs:List AV)|tup (xs:List AV)|dict (es:List (AV×AV))|inst (C:Nat) (fs:List (Nat×AV))|fL (l:List Nat)
noncomputable def AO.ctorIdx (v:AO):Nat:= @AO.casesOn (λ_=>Nat) v (λ_=>0) (λ_=>1) (λ_=>2) (λ_ _=>3) (λ_=>4)
structure a0 where
 n:Nat
 get:Nat->Option AO
 bg:List Int
noncomputable def a0.new (σ:a0) (o:AO):a0:=⟨σ.n+1,λi=>if i=σ.n then some o else σ.get i,σ.bg⟩
noncomputable def a0.set (σ:a0) (d:Nat) (o:AO):a0:=⟨σ.n,λi=>if i=d then some o else σ.get i,σ.bg⟩
noncomputable abbrev Loc:=Nat->Option AV
noncomputable def Loc.put (ρ:Loc) (x:Nat) (v:AV):Loc:=λy=>if y=x then some v else ρ y
noncomputable abbrev aw:Nat:=1000000
theorem rt: ∃n:Nat,n=5000:=⟨5000,rfl⟩
noncomputable def turns:Nat:=Classical.choose rt
theorem aP:turns=5000:=Classical.choose_spec rt
noncomputable def rM (x:Nat):AV:=match qg x with
 |some v=>v
 |none=> .gJ x
noncomputable def HT:List Nat:= [3,5,24,25,26,51,60,105,111]
noncomputable def xE (x:Nat):Bool:=(tG x).isSome||(ub x).isSome||(qg x).isSome||(jZ x).isSome||HT.contains x
noncomputable def kj (c:Nat):List Nat:=match aN[c]? with
 |some s=>s.toList.map Char.toNat
 |none=> []
section
variable {α:Type}
noncomputable def bV (v:AV) (f:Int->Option α):Option α:=match v with| .int i=>f i|_=>none
noncomputable def oy (v:AV) (f:List Nat->Option α):Option α:=match v with| .bytes l=>f l|_=>none
noncomputable def u6 (v:AV) (f:Nat->Option α):Option α:=match v with| .str c=>f c|_=>none
noncomputable def dY (v:AV) (f:Nat->Option α):Option α:=match v with| .ref r=>f r|_=>none
noncomputable def bA (σ:a0) (r:Nat) (f:AO->Option α):Option α:=match σ.get r with|some o=>f o|none=>none
noncomputable def fP (o:AO) (f:List AV->Option α):Option α:=match o with| .list xs=>f xs|_=>none
noncomputable def xn (o:AO) (f:List AV->Option α):Option α:=match o with| .tup xs=>f xs|_=>none
noncomputable def Pg (o:AO) (f:List (AV×AV)->Option α):Option α:=match o with| .dict es=>f es|_=>none
noncomputable def wR (o:AO) (f:Nat->List (Nat×AV)->Option α):Option α:=match o with| .inst C fs=>f C fs|_=>none
noncomputable def on1 (as:List AV) (f:AV->Option α):Option α:=match as with| []=>none|a::r=>match r with| []=>f a|_::_=>none
noncomputable def tE (as:List AV) (f:AV->AV->Option α):Option α:=match as with| []=>none|a::r=>on1 r (f a)
end
noncomputable def eW (a b:AV):Option Bool:=match a with
 | .int x=>bV b λy=>some (decide (x=y))
 | .str x=>u6 b λy=>some (decide (x=y))
 | .bool x=>match b with| .bool y=>some (x==y)|_=>none
 | .bytes x=>oy b λy=>some (x==y)
 | .ref x=>dY b λy=>if x=y then some true else none
 |_=>none
noncomputable def listEq:List AV->List AV->Option Bool
 | [],m=>match m with| []=>some true|_::_=>none
 |x::xs,m=>match m with
  | []=>none
  |y::ys=>match eW x y with
   |some a=>(listEq xs ys).map (a&& ·)
   |none=>none
noncomputable def eqv (σ:a0) (a b:AV):Option Bool:=match a with
 | .ref r=>dY b λq=>bA σ r λo=>fP o λxs=>bA σ q λo'=>fP o' λys=>if xs.length=ys.length then listEq xs ys else some false
 |a=>eW a b
noncomputable def j4 (a b:AV):Option Bool:=match a with
 | .int x=>bV b λy=>some (decide (x=y))
 | .str x=>u6 b λy=>some (decide (x=y))
 | .bytes x=>oy b λy=>some (decide (x.map UInt8.ofNat=y.map UInt8.ofNat))
 |_=>none
noncomputable def flatsEq:List AV->List AV->Option Bool
 | [],m=>match m with| []=>some true|_::_=>none
 |x::xs,m=>match m with
  | []=>none
  |y::ys=>match j4 x y with
   |some true=>flatsEq xs ys
   |some false=>some false
   |none=>none
noncomputable def cC (σ:a0) (a b:AV):Option Bool:=match a with
 | .int x=>bV b λy=>some (decide (x=y))
 | .str x=>u6 b λy=>some (decide (x=y))
 | .ref r=>dY b λq=>bA σ r λo=>xn o λxs=>bA σ q λo'=>xn o' λys=>flatsEq xs ys
 |_=>none
noncomputable def dget (σ:a0) (k:AV):List (AV×AV)->Option (Option AV)
 | []=>some none
 |e::r=>match cC σ e.1 k with
  |some true=>some (some e.2)
  |some false=>dget σ k r
  |none=>none
noncomputable def dput (σ:a0) (k v:AV):List (AV×AV)->Option (List (AV×AV))
 | []=>some [(k,v)]
 |e::r=>match cC σ e.1 k with
  |some true=>some ((e.1,v)::r)
  |some false=>(dput σ k v r).map (e:: ·)
  |none=>none
noncomputable def j7 (v:AV):Bool:=match v with
 | .int _=>true
 | .str c=>(aN[c]?).isSome
 | .bytes _=>true
 |_=>false
noncomputable def k7 (o:Option AO):Bool:=match o with
 |some (.tup xs)=>xs.all j7
 |_=>false
noncomputable def isKey (σ:a0) (v:AV):Bool:=match v with
 | .int _=>true
 | .str c=>(aN[c]?).isSome
 | .ref n=>k7 (σ.get n)
 |_=>false
noncomputable def cJ (σ:a0) (k:AV) (es:List (AV×AV)):Option (Option AV):=if isKey σ k then dget σ k es else none
noncomputable def pT (σ:a0) (k v:AV) (es:List (AV×AV)):Option (List (AV×AV)):=if isKey σ k then dput σ k v es else none
noncomputable def flook (x:Nat):List (Nat×AV)->Option AV
 | []=>none
 |e::r=>if e.1=x then some e.2 else flook x r
noncomputable def dg (x:Nat) (v:AV):List (Nat×AV)->List (Nat×AV)
 | []=> [(x,v)]
 |e::r=>if e.1=x then (x,v)::r else e::dg x v r
noncomputable def small (i:Int):Bool:=decide (i.natAbs<1000000000000)
noncomputable def bin (o:BOp) (a b:AV) (σ:a0):Option (AV×a0):=match o with
 | .add=>match a with
  | .int x=>bV b λy=>some (.int (x+y),σ)
  | .bytes x=>oy b λy=>if x.length+y.length≤aw then some (.bytes (x++y),σ) else none
  | .ref r=>dY b λq=>bA σ r λo=>fP o λxs=>bA σ q λo'=>fP o' λys=>if xs.length+ys.length≤aw then some (.ref σ.n,σ.new (.list (xs++ys))) else none
  |_=>none
 | .sub=>bV a λx=>bV b λy=>some (.int (x-y),σ)
 | .mul=>bV a λx=>bV b λy=>if small x&&small y then some (.int (x*y),σ) else none
 | .mod=>bV a λx=>bV b λy=>if 0<y then some (.int (x%y),σ) else none
 | .div=>bV a λx=>bV b λy=>if 0<y/\small x=true/\small y=true then some (.int (x/y),σ) else none
 | .shr=>bV a λx=>bV b λy=>if 0≤x/\x<256/\y=4 then some (.int (x/16),σ) else none
 | .band=>bV a λx=>bV b λy=>if 0≤x/\x<256/\y=15 then some (.int (x%16),σ) else none
noncomputable def isNone (v:AV):Bool:=match v with
 | .none=>true
 |_=>false
noncomputable def gz (v:AV):Bool:=match v with
 | .gJ _=>false
 |_=>true
noncomputable def mW (c:Nat) (v:AV):Bool:=match v with| .str d=>decide (d=c)|_=>false
noncomputable def inv (a b:AV) (σ:a0):Option Bool:=match b with
 | .gJ x=>match jZ x with
  |some l=>u6 a λc=>some (l.any (mW c))
  |none=>none
 | .ref d=>bA σ d λo=>Pg o λes=>(cJ σ a es).map (·.isSome)
 |_=>none
noncomputable def HU (a b:AV):Option Bool:=match b with
 | .none=>if gz a then some (isNone a) else none
 |_=>none
noncomputable def fF (o:COp) (a b:AV) (σ:a0):Option Bool:=match o with
 | .eq=>eqv σ a b
 | .ne=>(eqv σ a b).map (!·)
 | .lt=>bV a λx=>bV b λy=>some (decide (x<y))
 | .le=>bV a λx=>bV b λy=>some (decide (x≤y))
 | .gt=>bV a λx=>bV b λy=>some (decide (y<x))
 | .ge=>bV a λx=>bV b λy=>some (decide (y≤x))
 | .is=>HU a b
 | .isnot=>(HU a b).map (!·)
 | .isin=>inv a b σ
 | .l9=>dY b λ_=>(inv a b σ).map (!·)
noncomputable def zg (xs:List AV) (i:AV):Option AV:=bV i λk=>if 0≤k/\small k=true then xs[k.toNat]? else none
noncomputable def bT (a i:AV) (σ:a0):Option AV:=match a with
 | .bytes l=>bV i λk=>if 0≤k/\l.length≤aw then (l[k.toNat]?).map λx=> .int (x:Nat) else none
 | .ref r=>bA σ r λo=>match o with
  | .list xs=>zg xs i
  | .tup xs=>zg xs i
  | .dict es=>match cJ σ i es with
   |some o=>o
   |none=>none
  |_=>none
 |_=>none
noncomputable def cut (lo:Nat) (hi:Option Nat) (xs:List AV):List AV:=match hi with
 |some h=>(xs.take h).drop lo
 |none=>xs.drop lo
noncomputable def CK (a:AV) (lo:Nat) (hi:Option Nat) (σ:a0):Option (AV×a0):=match a with
 | .ref r=>bA σ r λo=>fP o λxs=>if xs.length≤aw then some (.ref σ.n,σ.new (.list (cut lo hi xs))) else none
 | .bg=>if σ.bg.length≤aw then some (.ref σ.n,σ.new (.list (cut lo hi (σ.bg.map .int)))) else none
 |_=>none
noncomputable def Aq (a:AV) (σ:a0):Option (AV×a0):=dY a λr=>bA σ r λo=>fP o λxs=>if xs.length≤aw then some (.ref σ.n,σ.new (.list xs.reverse)) else none
noncomputable def bz (a:AV) (x:Nat) (σ:a0):Option AV:=dY a λr=>bA σ r λo=>wR o λC fs=>if fld C x then (match flook x fs with|some v=>if gz v then some v else none|none=>none) else none
noncomputable def fW (a:AV) (x:Nat) (v:AV) (σ:a0):Option a0:=dY a λr=>bA σ r λo=>wR o λC fs=>if fld C x=true/\fs.length≤100 then some (σ.set r (.inst C (dg x v fs))) else none
noncomputable def gi (a i v:AV) (σ:a0):Option a0:=dY a λr=>bA σ r λo=>match o with
 | .list xs=>bV i λk=>if 0≤k/\k.toNat<xs.length/\small k=true then some (σ.set r (.list (xs.set k.toNat v))) else none
 | .dict es=>if es.length≤aw then (pT σ i v es).map λct=>σ.set r (.dict ct) else none
 |_=>none
noncomputable def allInts:List AV->Option (List Nat)
 | []=>some []
 |v::r=>bV v λi=>if 0≤i/\i<256 then (allInts r).map (i.toNat:: ·) else none
noncomputable def et:List AV->Option (List (List Nat))
 | []=>some []
 |v::r=>oy v λl=>(et r).map (l:: ·)
noncomputable def joinB (sep:List Nat):List (List Nat)->List Nat
 | []=> []
 | [x]=>x
 |x::r=>x++sep++joinB sep r
noncomputable def splitB (c:Nat):List Nat->List Nat->List (List Nat)
 |cur, []=> [cur.reverse]
 |cur,x::r=>if x=c then cur.reverse::splitB c [] r else splitB c (x::cur) r
noncomputable def Ia:List (Nat×(List AV->a0->Option (AV×a0))):= [
 (3,λas σ=>on1 as λa=>match a with| .chr c=>some (.int (c:Nat),σ)|_=>none),
 (5,λas σ=>on1 as λa=>dY a λr=>bA σ r λo=>match o with
  | .list xs=>match allInts xs with|some l=>if l.length≤aw then some (.bytes l,σ) else none|none=>none
  | .fL l=>if l.length≤aw then some (.bytes l,σ) else none
  |_=>none),
 (25,λas σ=>tE as λv t=>match t with
  | .gJ t=>match v with
   | .bool _=>if t=24 then some (.bool true,σ) else none
   | .int _=>if t=24 then some (.bool false,σ) else if t=26 then some (.bool true,σ) else none
   | .bytes _=>if t=24 then some (.bool false,σ) else if t=26 then some (.bool false,σ) else if t=5 then some (.bool true,σ) else none
   |_=>none
  |_=>none),
 (26,λas σ=>on1 as λa=>match a with| .int i=>some (.int i,σ)| .bool b=>some (.int (if b then 1 else 0),σ)|_=>none),
 (51,λas σ=>on1 as λa=>match a with
  | .bytes l=>if l.length≤aw then some (.int (l.length:Nat),σ) else none
  | .ref r=>bA σ r λo=>match o with
   | .list xs=>if xs.length≤aw then some (.int (xs.length:Nat),σ) else none
   | .dict es=>if es.length≤aw then some (.int (es.length:Nat),σ) else none
   |_=>none
  |_=>none),
 (60,λas σ=>on1 as λa=>dY a λr=>bA σ r λo=>fP o λxs=>if xs.length≤aw then some (.ref σ.n,σ.new (.list xs)) else none),
 (105,λas σ=>on1 as λa=>oy a λl=>if l.length≤aw then some (.ref σ.n,σ.new (.fL l)) else none),
 (111,λas σ=>tE as λa b=>bV a λx=>bV b λy=>some (.int (if y<x then y else x),σ))]
noncomputable def fu (x:Nat) (as:List AV) (σ:a0):Option (AV×a0):=match Ia.lookup x with
 |some f=>f as σ
 |none=>none
noncomputable def Cj (xs:List AV) (r:Nat) (σ:a0):List (Nat×(List AV->Option (AV×a0))):= [
 (10,λas=>on1 as λv=>if xs.length<aw then some (.none,σ.set r (.list (xs++ [v]))) else none),
 (46,λas=>on1 as λv=>bV v λk=>match xs with
  |v::Pp=>if k=0/\Pp.length≤aw then some (v,σ.set r (.list Pp)) else none
  | []=>none),
 (74,λas=>on1 as λv=>dY v λq=>bA σ q λo=>fP o λys=>if q≠r/\xs.length+ys.length≤aw then some (.none,σ.set r (.list (xs++ys))) else none)]
noncomputable def BM (l:List Nat) (σ:a0):List (Nat×(List AV->Option (AV×a0))):= [
 (33,λas=>on1 as λv=>dY v λq=>bA σ q λo=>fP o λys=>match et ys with|some bs=>if (joinB l bs).length≤aw then some (.bytes (joinB l bs),σ) else none|none=>none),
 (101,λas=>on1 as λv=>oy v λc=>match c with| []=>none|c::r=>match r with| []=>if l.length≤aw then some (.ref σ.n,σ.new (.list ((splitB c [] l).map .bytes))) else none|_::_=>none)]
noncomputable def d7 (a:AV) (m:Nat) (as:List AV) (σ:a0):Option (AV×a0):=match a with
 | .ref r=>bA σ r λo=>match o with
  | .list xs=>match (Cj xs r σ).lookup m with|some f=>f as|none=>none
  | .dict es=>if m=55 then tE as λk d=>match cJ σ k es with
   |some o=>some (o.getD d,σ)
   |none=>none else none
  |_=>none
 | .bytes l=>match (BM l σ).lookup m with|some f=>f as|none=>none
 |_=>none
noncomputable def gp (σ:a0) (o:AV) (m:Nat):Option Nat:=dY o λr=>bA σ r λo=>wR o λc fs=>match flook m fs with
 |none=>xm c m
 |some _=>none
noncomputable def cM (σ:a0) (v:AV):Nat:=match v with
 | .ref r=>match σ.get r with
  |some (.list _)=>1
  |some (.dict _)=>2
  |_=>0
 | .bytes _=>3
 |_=>0
set_option genCtorIdx false in
inductive cb|lst (r:Nat)|tup (r:Nat)|aj (xs:List AV)|dct (xs:List AV)|zip (r q:Nat)
noncomputable def cb.ctorIdx (v:cb):Nat:= @cb.casesOn (λ_=>Nat) v (λ_=>0) (λ_=>1) (λ_=>2) (λ_=>3) (λ_ _=>4)
noncomputable def l4 (s:cb) (p:Bool):Bool:=match s with
 | .dct _=>p
 |_=>true
noncomputable def gj:IE->Bool
 | .var _=>true
 | .attr a _=>gj a
 | .idx a i=>gj a&&gj i
 |_=>false
noncomputable def upTo:Nat->Nat->List AV
 |_,0=> []
 |a,n+1=> .int (a:Nat)::upTo (a+1) n
noncomputable def rK (v:AV):Bool:=match v with
 | .ref _=>true
 |_=>false
noncomputable def fk (k:SK) (vs:List AV) (σ:a0):Option cb:=match k with
 | .of=>on1 vs λv=>match v with
  | .ref r=>bA σ r λo=>match o with
   | .list _=>some (.lst r)
   | .tup _=>some (.tup r)
   | .dict es=>if es.all (λe=>rK e.1) then some (.dct (es.map (·.1))) else none
   |_=>none
  | .str c=>some (.aj ((kj c).map .chr))
  | .bytes l=>some (.aj (l.map λx=> .int (x:Nat)))
  |_=>none
 | .range=>on1 vs λv=>bV v λn=>if 0≤n/\n≤4000 then some (.aj (upTo 0 n.toNat)) else none
 | .zip=>tE vs λv w=>dY v λr=>dY w λq=>bA σ r λo=>fP o λ_=>bA σ q λo'=>fP o' λ_=>some (.zip r q)
noncomputable def jG (s:cb) (k:Nat) (σ:a0):Option (Option (List AV)):=match s with
 | .lst r=>bA σ r λo=>fP o λxs=>some (xs[k]?.map ([·]))
 | .tup r=>bA σ r λo=>xn o λxs=>some (xs[k]?.map ([·]))
 | .aj xs=>some (xs[k]?.map ([·]))
 | .dct xs=>some (xs[k]?.map ([·]))
 | .zip r q=>bA σ r λo=>fP o λxs=>bA σ q λo'=>fP o' λys=>match xs[k]? with
  |some x=>match ys[k]? with
   |some y=>some (some [x,y])
   |none=>some none
  |none=>some none
noncomputable def RK (o:AO):Option (List AV):=match o with
 | .list xs=>some xs
 | .tup xs=>some xs
 |_=>none
noncomputable def l5 (v:AV) (σ:a0):Option (List AV):=dY v λr=>bA σ r RK
noncomputable def only (ρ:Loc) (free:List Nat):Loc:=λx=>if free.contains x then ρ x else none
set_option genCtorIdx false in
inductive Fl|next|cont|ret (v:AV)
noncomputable def Fl.ctorIdx (v:Fl):Nat:= @Fl.casesOn (λ_=>Nat) v 0 1 (λ_=>2)
noncomputable def oB {α:Type} (o:Option α) (Q:α->Prop):Prop:=match o with
 |some a=>Q a
 |none=>False
noncomputable def wV (o:Option (AV×a0)) (Q:AV->a0->Prop):Prop:=oB o λp=>Q p.1 p.2
noncomputable def jN (v:AV) (P N:Prop):Prop:=match v with
 | .bool true=>P
 | .bool false=>N
 |_=>False
noncomputable abbrev aD:=Nat->List AV->a0->(AV->a0->Prop)->Prop
noncomputable def uV (r:Nat) (Q:AV->a0->Prop) (v:AV) (σ:a0):Prop:=v= .none/\Q (.ref r) σ
noncomputable def wC (C:aD) (fv:AV) (as:List AV) (σ:a0) (Q:AV->a0->Prop):Prop:=match fv with
 | .gJ x=>match tG x with
  |some f=>C f as σ Q
  |none=>match ub x with
   |some f=>C f (.ref σ.n::as) (σ.new (.inst x [])) (uV σ.n Q)
   |none=>wV (fu x as σ) Q
 |_=>False
noncomputable def wM (C:aD) (σ:a0) (o:AV) (m:Nat) (as:List AV) (σ':a0) (Q:AV->a0->Prop):Prop:=match gp σ o m with
 |some f=>C f (o::as) σ' Q
 |none=>cM σ o=cM σ' o/\wV (d7 o m as σ') Q
noncomputable abbrev KV:=AV->a0->Prop
noncomputable abbrev KF:=Fl->Loc->a0->Prop
noncomputable def kR (σ:a0) (Q:KV) (v:AV):Prop:=Q v σ
noncomputable def Bv (w:List AV->Loc->(Loc->Prop)->Prop) (ρ:Loc) (Q:Loc->Prop) (xs:List AV):Prop:=w xs ρ Q
noncomputable def kN (w:Loc->(Loc->Prop)->Prop) (Q:Loc->Prop) (ρ:Loc):Prop:=w ρ Q
mutual
noncomputable def wN (σ:a0):NT->AV->Loc->(Loc->Prop)->Prop
 | .name x,v,ρ,Q=>Q (ρ.put x v)
 | .tup ts,v,ρ,Q=>oB (l5 v σ) (Bv (jL σ ts) ρ Q)
noncomputable def jL (σ:a0):List NT->List AV->Loc->(Loc->Prop)->Prop
 | [],xs,ρ,Q=>match xs with
  | []=>Q ρ
  |_::_=>False
 |t::ts,xs,ρ,Q=>match xs with
  |x::xs=>wN σ t x ρ (kN (jL σ ts xs) Q)
  | []=>False
end
noncomputable def s2 (Q:AV->AV->Prop) (l:List AV):Prop:=match l with
 | []=>False
 |x::r=>match r with
  | []=>False
  |y::r=>match r with
   | []=>Q x y
   |_::_=>False
noncomputable def wY (σ:a0) (t:NT) (vs:List AV) (ρ:Loc) (Q:Loc->Prop):Prop:=match vs with
 | []=>False
 |v::r=>match r with
  | []=>wN σ t v ρ Q
  |_::_=>match t with
   | .tup ts=>jL σ ts vs ρ Q
   | .name _=>False
noncomputable def fU (n:Loc->a0->Prop) (Q:KF) (fl:Fl) (ρ:Loc) (σ:a0):Prop:=match fl with
 | .ret v=>Q (.ret v) ρ σ
 | .next=>n ρ σ
 | .cont=>n ρ σ
noncomputable def Mf (body:Loc->a0->KF->Prop) (σ:a0) (n:Loc->a0->Prop) (Q:KF) (ρ:Loc):Prop:=body ρ σ (fU n Q)
noncomputable def dm (s:cb) (t:NT) (body:Loc->a0->KF->Prop):Nat->Nat->Loc->a0->KF->Prop
 |0,_,_,_,_=>False
 |f+1,k,ρ,σ,Q=>oB (jG s k σ) λo=>match o with
  |none=>Q .next ρ σ
  |some vs=>wY σ t vs ρ (Mf body σ (λρ2 σ2=>dm s t body f (k+1) ρ2 σ2 Q) Q)
noncomputable def OJ (body:Loc->a0->KF->Prop) (ρ:Loc) (n:Loc->a0->Prop) (Q:KF) (v:AV) (σ:a0):Prop:=jN v (body ρ σ (fU n Q)) (Q .next ρ σ)
noncomputable def d9 (test:Loc->a0->KV->Prop) (body:Loc->a0->KF->Prop):Nat->Loc->a0->KF->Prop
 |0,_,_,_=>False
 |f+1,ρ,σ,Q=>test ρ σ (OJ body ρ (λρ2 σ2=>d9 test body f ρ2 σ2 Q) Q)
noncomputable def RH (elt:Loc->a0->KV->Prop) (ρ:Loc) (acc:List AV) (n:List AV->a0->Prop) (c:Bool) (σ:a0):Prop:=match c with
 |false=>n acc σ
 |true=>elt ρ σ λv=>n (acc++ [v])
noncomputable def FC (conds:Loc->a0->(Bool->a0->Prop)->Prop) (elt:Loc->a0->KV->Prop) (σ:a0) (acc:List AV) (n:Loc->List AV->a0->Prop) (ρ:Loc):Prop:=conds ρ σ (RH elt ρ acc (n ρ))
noncomputable def bE (s:cb) (t:NT) (conds:Loc->a0->(Bool->a0->Prop)->Prop) (elt:Loc->a0->KV->Prop):Nat->Nat->List AV->Loc->a0->(List AV->a0->Prop)->Prop
 |0,_,_,_,_,_=>False
 |f+1,k,acc,ρ,σ,Q=>oB (jG s k σ) λo=>match o with
  |none=>Q acc σ
  |some vs=>wY σ t vs ρ (FC conds elt σ acc λρ1 acc σ=>bE s t conds elt f (k+1) acc ρ1 σ Q)
noncomputable def uT (o:BOp) (x:AV) (Q:KV) (y:AV) (σ:a0):Prop:=match bin o x y σ with
 |some (v,σ')=>Q v σ'
 |none=>False
noncomputable def QP (w:a0->KV->Prop) (o:BOp) (Q:KV) (x:AV) (σ:a0):Prop:=w σ (uT o x Q)
noncomputable def pU (o:COp) (x:AV) (Q:KV) (y:AV) (σ:a0):Prop:=match fF o x y σ with
 |some r=>Q (.bool r) σ
 |none=>False
noncomputable def R5 (w:a0->KV->Prop) (o:COp) (Q:KV) (x:AV) (σ:a0):Prop:=w σ (pU o x Q)
noncomputable def Qn (Q:KV) (x:AV) (σ:a0):Prop:=jN x (Q (.bool false) σ) (Q (.bool true) σ)
noncomputable def Sg (w:a0->KV->Prop) (Q:KV) (x:AV) (σ:a0):Prop:=jN x (w σ Q) (Q (.bool false) σ)
noncomputable def Ua (w:a0->KV->Prop) (Q:KV) (x:AV) (σ:a0):Prop:=jN x (Q (.bool true) σ) (w σ Q)
noncomputable def I5 {α:Type} (a b:a0->α->Prop) (Q:α) (x:AV) (σ:a0):Prop:=jN x (a σ Q) (b σ Q)
noncomputable def Ko (x:Nat) (Q:KV) (v:AV) (σ:a0):Prop:=oB (bz v x σ) (kR σ Q)
noncomputable def LY (x:AV) (Q:KV) (y:AV) (σ:a0):Prop:=oB (bT x y σ) (kR σ Q)
noncomputable def QJ (w:a0->KV->Prop) (Q:KV) (x:AV) (σ:a0):Prop:=w σ (LY x Q)
noncomputable def U0 (lo:Nat) (hi:Option Nat) (Q:KV) (x:AV) (σ:a0):Prop:=wV (CK x lo hi σ) Q
noncomputable def QS (Q:KV) (x:AV) (σ:a0):Prop:=wV (Aq x σ) Q
noncomputable def Nj (Q:KV) (vs:List AV) (σ:a0):Prop:=match Nat.ble vs.length aw with
 |true=>Q (.ref σ.n) (σ.new (.list vs))
 |false=>False
noncomputable def Kl (Q:KV) (vs:List AV) (σ:a0):Prop:=match Nat.ble vs.length aw with
 |true=>Q (.ref σ.n) (σ.new (.tup vs))
 |false=>False
noncomputable def Mn (ks:List Nat) (Q:KV) (vs:List AV) (σ:a0):Prop:=Q (.ref σ.n) (σ.new (.dict ((ks.map AV.str).zip vs)))
noncomputable def I0 (C:aD) (fv:AV) (Q:KV) (vs:List AV) (σ:a0):Prop:=wC C fv vs σ Q
noncomputable def Kp (C:aD) (w:a0->(List AV->a0->Prop)->Prop) (Q:KV) (fv:AV) (σ:a0):Prop:=w σ (I0 C fv Q)
noncomputable def HI (C:aD) (σ1:a0) (ov:AV) (m:Nat) (Q:KV) (vs:List AV) (σ:a0):Prop:=wM C σ1 ov m vs σ Q
noncomputable def Ni (C:aD) (w:a0->(List AV->a0->Prop)->Prop) (m:Nat) (Q:KV) (ov:AV) (σ:a0):Prop:=w σ (HI C σ ov m Q)
noncomputable def Im (Q:KV) (xs:List AV) (σ:a0):Prop:=Q (.ref σ.n) (σ.new (.list xs))
noncomputable def jW (t:NT) (conds:Loc->a0->(Bool->a0->Prop)->Prop) (elt:Loc->a0->KV->Prop) (p:Bool) (ρ:Loc) (σ:a0) (Q:KV) (s:cb):Prop:=match l4 s p with
 |true=>bE s t conds elt turns 0 [] ρ σ (Im Q)
 |false=>False
noncomputable def MW (t:NT) (k:SK) (conds:Loc->a0->(Bool->a0->Prop)->Prop) (elt:Loc->a0->KV->Prop) (p:Bool) (ρ:Loc) (Q:KV) (vs:List AV) (σ:a0):Prop:=oB (fk k vs σ) (jW t conds elt p ρ σ Q)
noncomputable def FX (v:AV) (Q:List AV->a0->Prop) (vs:List AV) (σ:a0):Prop:=Q (v::vs) σ
noncomputable def Np (w:a0->(List AV->a0->Prop)->Prop) (Q:List AV->a0->Prop) (v:AV) (σ:a0):Prop:=w σ (FX v Q)
noncomputable def kK (w:a0->(Bool->a0->Prop)->Prop) (Q:Bool->a0->Prop) (v:AV) (σ:a0):Prop:=jN v (w σ Q) (Q false σ)
mutual
noncomputable def wE (C:aD):IE->Loc->a0->KV->Prop
 | .lit v,_,σ,Q=>Q v σ
 | .var x,ρ,σ,Q=>match ρ x with
  |some v=>Q v σ
  |none=>False
 | .glob x,_,σ,Q=>match xE x with
  |true=>Q (rM x) σ
  |false=>False
 | .bin o a b,ρ,σ,Q=>wE C a ρ σ (QP (wE C b ρ) o Q)
 | .cmp o a b,ρ,σ,Q=>wE C a ρ σ (R5 (wE C b ρ) o Q)
 | .not a,ρ,σ,Q=>wE C a ρ σ (Qn Q)
 | .and a b,ρ,σ,Q=>wE C a ρ σ (Sg (wE C b ρ) Q)
 | .or a b,ρ,σ,Q=>wE C a ρ σ (Ua (wE C b ρ) Q)
 | .ite c a b,ρ,σ,Q=>wE C c ρ σ (I5 (wE C a ρ) (wE C b ρ) Q)
 | .attr a x,ρ,σ,Q=>wE C a ρ σ (Ko x Q)
 | .idx a i,ρ,σ,Q=>wE C a ρ σ (QJ (wE C i ρ) Q)
 | .sl a lo hi,ρ,σ,Q=>wE C a ρ σ (U0 lo hi Q)
 | .rev a,ρ,σ,Q=>wE C a ρ σ (QS Q)
 | .list es,ρ,σ,Q=>wEs C es ρ σ (Nj Q)
 | .tup es,ρ,σ,Q=>wEs C es ρ σ (Kl Q)
 | .dict ks es,ρ,σ,Q=>wEs C es ρ σ (Mn ks Q)
 | .call f es,ρ,σ,Q=>wE C f ρ σ (Kp C (wEs C es ρ) Q)
 | .bc o m es,ρ,σ,Q=>wE C o ρ σ (Ni C (wEs C es ρ) m Q)
 | .comp elt t k es ifs free,ρ,σ,Q=>wEs C es ρ σ (MW t k (wK C ifs) (wE C elt) (gj elt&&ifs.isEmpty) (only ρ free) Q)
 | .fail,_,_,_=>False
noncomputable def wEs (C:aD):List IE->Loc->a0->(List AV->a0->Prop)->Prop
 | [],_,σ,Q=>Q [] σ
 |e::r,ρ,σ,Q=>wE C e ρ σ (Np (wEs C r ρ) Q)
noncomputable def wK (C:aD):List IE->Loc->a0->(Bool->a0->Prop)->Prop
 | [],_,σ,Q=>Q true σ
 |e::r,ρ,σ,Q=>wE C e ρ σ (kK (wK C r ρ) Q)
end
noncomputable def MX (ρ:Loc) (Q:KF) (_:AV) (σ:a0):Prop:=Q .next ρ σ
noncomputable def OR (σ:a0) (Q:KF) (ρ:Loc):Prop:=Q .next ρ σ
noncomputable def Rr (t:NT) (ρ:Loc) (Q:KF) (v:AV) (σ:a0):Prop:=wN σ t v ρ (OR σ Q)
noncomputable def C4 (ρ:Loc) (Q:KF) (σ:a0):Prop:=Q .next ρ σ
noncomputable def Sa (x:Nat) (v:AV) (ρ:Loc) (Q:KF) (ov:AV) (σ:a0):Prop:=oB (fW ov x v σ) (C4 ρ Q)
noncomputable def TH (w:a0->KV->Prop) (x:Nat) (ρ:Loc) (Q:KF) (v:AV) (σ:a0):Prop:=w σ (Sa x v ρ Q)
noncomputable def RS (v ov:AV) (Q:a0->Prop) (iv:AV) (σ:a0):Prop:=oB (gi ov iv v σ) Q
noncomputable def HH (wi:a0->KV->Prop) (v:AV) (Q:a0->Prop) (ov:AV) (σ:a0):Prop:=wi σ (RS v ov Q)
noncomputable def Hw (wo wi:a0->KV->Prop) (Q:a0->Prop) (v:AV) (σ:a0):Prop:=wo σ (HH wi v Q)
noncomputable def Ib (wo wi IW IX:a0->KV->Prop) (σ:a0) (Q:a0->Prop) (x y:AV):Prop:=Hw wo wi (Hw IW IX Q y) x σ
noncomputable def Uk (wo wi IW IX:a0->KV->Prop) (Q:a0->Prop) (v:AV) (σ:a0):Prop:=oB (l5 v σ) (s2 (Ib wo wi IW IX σ Q))
noncomputable def QM (ρ:Loc) (Q:KF) (v:AV) (σ:a0):Prop:=Q (.ret v) ρ σ
noncomputable def CA (t:NT) (body:Loc->a0->KF->Prop) (ρ:Loc) (σ:a0) (Q:KF) (s:cb):Prop:=match l4 s false with
 |true=>dm s t body turns 0 ρ σ Q
 |false=>False
noncomputable def kFor (t:NT) (k:SK) (body:Loc->a0->KF->Prop) (ρ:Loc) (Q:KF) (vs:List AV) (σ:a0):Prop:=oB (fk k vs σ) (CA t body ρ σ Q)
noncomputable def Pk (w:Loc->a0->KF->Prop) (Q:KF) (fl:Fl) (ρ:Loc) (σ:a0):Prop:=match fl with
 | .next=>w ρ σ Q
 | .cont=>Q .cont ρ σ
 | .ret v=>Q (.ret v) ρ σ
mutual
noncomputable def wS (C:aD):IS->Loc->a0->KF->Prop
 | .expr e,ρ,σ,Q=>wE C e ρ σ (MX ρ Q)
 | .asg t e,ρ,σ,Q=>wE C e ρ σ (Rr t ρ Q)
 | .aA o x e,ρ,σ,Q=>wE C e ρ σ (TH (wE C o ρ) x ρ Q)
 | .dM o i e,ρ,σ,Q=>wE C e ρ σ (Hw (wE C o ρ) (wE C i ρ) (C4 ρ Q))
 | .lx o1 i1 o2 i2 e,ρ,σ,Q=>wE C e ρ σ (Uk (wE C o1 ρ) (wE C i1 ρ) (wE C o2 ρ) (wE C i2 ρ) (C4 ρ Q))
 | .ret e,ρ,σ,Q=>wE C e ρ σ (QM ρ Q)
 | .iff c a b,ρ,σ,Q=>wE C c ρ σ (I5 (wSs C a ρ) (wSs C b ρ) Q)
 | .kS c b,ρ,σ,Q=>d9 (wE C c) (wSs C b) turns ρ σ Q
 | .cY t k es b,ρ,σ,Q=>wEs C es ρ σ (kFor t k (wSs C b) ρ Q)
 | .cont,ρ,σ,Q=>Q .cont ρ σ
 | .fail,_,_,_=>False
noncomputable def wSs (C:aD):List IS->Loc->a0->KF->Prop
 | [],ρ,σ,Q=>Q .next ρ σ
 |s::r,ρ,σ,Q=>wS C s ρ σ (Pk (wSs C r) Q)
end
theorem aa {o:Option AV} {a:AV} {Q:AV->Prop} (e:o=some a) (h:Q a):(match (generalizing:=false) o with|some v=>Q v|none=>False):=e▸h
theorem i6 {o:Option Bool} {a:Bool} {Q:Bool->Prop} (e:o=some a) (h:Q a):(match (generalizing:=false) o with|some r=>Q r|none=>False):=e▸h
theorem bw {o:Option (AV×a0)} {a:AV} {σ:a0} {Q:AV->a0->Prop} (e:o=some (a,σ)) (h:Q a σ):(match (generalizing:=false) o with|some (v,σ')=>Q v σ'|none=>False):=e▸h
noncomputable def pO (ps:List Nat) (ds:List AV) (as:List AV):Option (List (Nat×AV)):=
 let need:=ps.length-as.length
 if as.length≤ps.length/\need≤ds.length then some (ps.zip (as++ds.drop (ds.length-need))) else none
noncomputable def eb:List (Nat×AV)->Loc
 | []=>λ_=>none
 |p::r=>(eb r).put p.1 p.2
def vF (Q:KV) (fl:Fl) (_:Loc) (σ:a0):Prop:=match fl with
 | .ret v=>Q v σ
 | .next=>Q .none σ
 | .cont=>False
noncomputable def vC:Nat->aD
 |0,_,_,_,_=>False
 |n+1,f,as,σ,Q=>oB (x7 f) λfd=>oB (pO fd.params fd.cW as) λbs=>wSs (vC n) fd.body (eb bs) σ (vF Q)
theorem qJ: ∃c:Nat->aD,c=vC:=⟨_,rfl⟩
@[irreducible] noncomputable def callI:Nat->aD:=Classical.choose qJ
theorem ud:callI=vC:=by unfold callI;exact Classical.choose_spec qJ
theorem mq {n f:Nat} {as:List AV} {σ:a0} {Q:AV->a0->Prop}:callI (n+1) f as σ Q=oB (x7 f) λfd=>oB (pO fd.params fd.cW as) λbs=>wSs (callI n) fd.body (eb bs) σ (vF Q):=by rw [ud];rfl
theorem tI {f:Nat} {as:List AV} {σ:a0} {Q:AV->a0->Prop}:callI 0 f as σ Q=False:=by rw [ud];rfl
end Mine.Internal
namespace Mine.Internal.C
theorem a9 {α:Type} {o:Option α} {a:α} {Q:α->Prop} (e:o=some a) (h:Q a):oB o Q:=e▸h
theorem jh {o:Option (AV×a0)} {v:AV} {σ:a0} {Q:AV->a0->Prop} (e:o=some (v,σ)) (h:Q v σ):wV o Q:=e▸h
theorem aB {α:Type} {σ:a0} {r:Nat} {o:AO} {f:AO->Option α} (h:σ.get r=some o):bA σ r f=f o:=by unfold bA;rw [h]
theorem bb {b:Bool} {P N:Prop} (e:b=true) (h:P):jN (.bool b) P N:=e▸h
theorem aG {b:Bool} {P N:Prop} (e:b=false) (h:N):jN (.bool b) P N:=e▸h
theorem aC {n f:Nat} {as:List AV} {σ:a0} {fd:Fn} {bs:List (Nat×AV)} {Q:AV->a0->Prop} (hf:x7 f=some fd) (hb:pO fd.params fd.cW as=some bs)
  (h: ∀R:Fl->Loc->a0->Prop,(∀v ρ σ',Q v σ'->R (.ret v) ρ σ')->(∀ρ σ',Q .none σ'->R .next ρ σ')->wSs (callI n) fd.body (eb bs) σ R):callI (n+1) f as σ Q:=
 mq▸a9 hf (a9 hb (h (vF Q) (λ_ _ _ h=>h) λ_ _ h=>h))
theorem cw {C:aD} {s:cb} {t:NT} {b:List IS} (xs:List (List AV)) (I:Nat->Loc->a0->Prop) (hn: ∀k ρ σ,I k ρ σ->jG s k σ=some xs[k]?)
  (hs: ∀k ρ σ vs,I k ρ σ->xs[k]?=some vs-> ∀K:Fl->Loc->a0->Prop,(∀ρ2 σ2,I (k+1) ρ2 σ2->K .next ρ2 σ2)->wY σ t vs ρ λρ1=>wSs C b ρ1 σ K) {Q:Fl->Loc->a0->Prop} (hQ: ∀ρ σ,I xs.length ρ σ->Q .next ρ σ):
  ∀(f k:Nat) (ρ:Loc) (σ:a0),k≤xs.length->xs.length-k<f->I k ρ σ->dm s t (wSs C b) f k ρ σ Q
 |0,k,ρ,σ,hk,hf,h=>absurd hf (Nat.not_lt_zero _)
 |f+1,k,ρ,σ,hk,hf,h=>by
  refine a9 (hn k ρ σ h) ?_
  cases hx:xs[k]? with
  |none=>exact hQ _ _ (Nat.le_antisymm hk (List.getElem?_eq_none_iff.mp hx)▸h)
  |some vs=>
   have dN:k<xs.length:=(List.getElem?_eq_some_iff.mp hx).1
   exact hs k ρ σ vs h hx _ λρ2 σ2 h2=>cw xs I hn hs hQ f (k+1) ρ2 σ2 dN (by exact GK hf dN) h2
@[elab_as_elim] theorem get_m {α:Type} {l:List α} {f:α->AV} {k:Nat} {vs:List AV} (h:((l.map f).map ([·]))[k]?=some vs) {P:List AV->Prop} (q: ∀x,l[k]?=some x->P [f x]):P vs:=by
 rw [List.map_map,List.getElem?_map] at h
 obtain ⟨x,h1,rfl⟩:=Option.map_eq_some_iff.mp h
 exact q x h1
@[elab_as_elim] theorem get_1 {l:List AV} {k:Nat} {vs:List AV} (h:(l.map ([·]))[k]?=some vs) {P:List AV->Prop} (q: ∀x,l[k]?=some x->P [x]):P vs:=by
 rw [List.getElem?_map] at h
 obtain ⟨x,h1,rfl⟩:=Option.map_eq_some_iff.mp h
 exact q x h1
theorem bC {C:aD} {s:cb} {t:NT} {ifs:List IE} {elt:IE} (xs:List (List AV)) (I:Nat->List AV->Loc->a0->Prop) (hn: ∀k acc ρ σ,I k acc ρ σ->jG s k σ=some xs[k]?)
  (hs: ∀k acc ρ σ vs,I k acc ρ σ->xs[k]?=some vs-> ∀K:List AV->Loc->a0->Prop,(∀a ρ2 σ2,I (k+1) a ρ2 σ2->K a ρ2 σ2)->wY σ t vs ρ (FC (wK C ifs) (wE C elt) σ acc λρ1 a σ1=>K a ρ1 σ1)) {Q:List AV->a0->Prop} (hQ: ∀acc ρ σ,I xs.length acc ρ σ->Q acc σ):
  ∀(f k:Nat) (acc:List AV) (ρ:Loc) (σ:a0),k≤xs.length->xs.length-k<f->I k acc ρ σ->bE s t (wK C ifs) (wE C elt) f k acc ρ σ Q
 |0,k,acc,ρ,σ,hk,hf,h=>absurd hf (Nat.not_lt_zero _)
 |f+1,k,acc,ρ,σ,hk,hf,h=>by
  refine a9 (hn k acc ρ σ h) ?_
  cases hx:xs[k]? with
  |none=>exact hQ _ _ _ (Nat.le_antisymm hk (List.getElem?_eq_none_iff.mp hx)▸h)
  |some vs=>
   have dN:k<xs.length:=(List.getElem?_eq_some_iff.mp hx).1
   exact hs k acc ρ σ vs h hx (λa ρ2 σ2=>bE s t (wK C ifs) (wE C elt) f (k+1) a ρ2 σ2 Q) λa ρ2 σ2 h2=>bC xs I hn hs hQ f (k+1) a ρ2 σ2 dN (by exact GK hf dN) h2
def aR (σ:a0):Prop:= ∀i o,σ.get i=some o->i<σ.n
structure Gr (S:Nat->Prop) (σ σ':a0):Prop where
 n:σ.n≤σ'.n
 ar:aR σ'
 keep: ∀i o,¬S i->σ.get i=some o->σ'.get i=some o
 bg:σ'.bg=σ.bg
abbrev no:Nat->Prop:=λ_=>False
theorem Gr.refl {S:Nat->Prop} {σ:a0} (D:aR σ):Gr S σ σ:=⟨Nat.le_refl _,D,λ_ _ _ e=>e,rfl⟩
theorem af {σ:a0} {o:AO}:(σ.new o).get σ.n=some o:=by simp [a0.new]
theorem oE {σ:a0} {o:AO} {i:Nat} (h:i≠σ.n):(σ.new o).get i=σ.get i:=by simp [a0.new,h]
theorem aF {σ:a0} {d:Nat} {o:AO}:(σ.set d o).get d=some o:=by simp [a0.set]
theorem av {σ:a0} {d:Nat} {o:AO} {i:Nat} (h:i≠d):(σ.set d o).get i=σ.get i:=by simp [a0.set,h]
theorem Gr.new {σ:a0} (D:aR σ) (o:AO):Gr no σ (σ.new o):=by
 refine ⟨Nat.le_succ _,λi o' e=> ?_,λi o' _ e=> ?_,rfl⟩
 ·by_cases h:i=σ.n
  ·subst h;exact Nat.lt_succ_self _
  ·rw [oE h] at e;exact Nat.lt_succ_of_lt (D i o' e)
 ·rw [oE (Nat.ne_of_lt (D i o' e))];exact e
theorem Gr.set {σ:a0} (D:aR σ) {d:Nat} {o':AO} (h:σ.get d=some o') (o:AO):Gr (· =d) σ (σ.set d o):=by
 refine ⟨Nat.le_refl _,λi yK e=> ?_,λi yK hn e=> ?_,rfl⟩
 ·by_cases q:i=d
  ·subst q;exact D _ _ h
  ·rw [av q] at e;exact D i yK e
 ·rw [av hn];exact e
theorem Gr.trans {S S' T:Nat->Prop} {σ σ' σ'':a0} (g:Gr S σ σ') (g':Gr S' σ' σ'') (h: ∀i,S i->T i) (h': ∀i o,σ.get i=some o->S' i->T i):Gr T σ σ'':=
 ⟨Nat.le_trans g.n g'.n,g'.ar,λi o hn e=>g'.keep i o (λq=>hn (h' i o e q)) (g.keep i o (λq=>hn (h i q)) e),g'.bg.trans g.bg⟩
theorem Gr.then {S:Nat->Prop} {σ σ' σ'':a0} (g:Gr S σ σ') (g':Gr S σ' σ''):Gr S σ σ'':=g.trans g' (λ_ h=>h) λ_ _ _ h=>h
theorem Gr.weak {S T:Nat->Prop} {σ σ':a0} (g:Gr S σ σ') (h: ∀i,S i->T i):Gr T σ σ':=⟨g.n,g.ar,λi o hn e=>g.keep i o (λq=>hn (h i q)) e,g.bg⟩
theorem Gr.any {T:Nat->Prop} {σ σ':a0} (g:Gr no σ σ'):Gr T σ σ':=g.weak λ_ h=>h.elim
theorem j5 {xs:List AV} {k:Nat} {σ:a0}:jG (.aj xs) k σ=some ((xs.map ([·]))[k]?):=by rw [List.getElem?_map];rfl
theorem cq {r:Nat} {xs:List AV} {k:Nat} {σ:a0} (h:σ.get r=some (.list xs)):jG (.lst r) k σ=some ((xs.map ([·]))[k]?):=by rw [List.getElem?_map];exact aB h
theorem EN {r:Nat} {xs:List AV} {k:Nat} {σ:a0} (h:σ.get r=some (.tup xs)):jG (.tup r) k σ=some ((xs.map ([·]))[k]?):=by rw [List.getElem?_map];exact aB h
theorem cI {r:Nat} {xs:List AV} {σ:a0} (h:σ.get r=some (.list xs)):fk .of [.ref r] σ=some (.lst r):=aB h
theorem GZ {r:Nat} {xs:List AV} {σ:a0} (h:σ.get r=some (.tup xs)):fk .of [.ref r] σ=some (.tup r):=aB h
theorem Ie {k:Int} {σ:a0} (h:0≤k/\k≤4000):fk .range [.int k] σ=some (.aj (upTo 0 k.toNat)):=if_pos h
theorem rq {r q:Nat} {xs ys:List AV} {σ:a0} (h:σ.get r=some (.list xs)) (h':σ.get q=some (.list ys)):fk .zip [.ref r, .ref q] σ=some (.zip r q):=(aB h).trans (aB h')
theorem cQ {σ:a0} {r:Nat} {xs:List AV} (h:σ.get r=some (.tup xs)):l5 (.ref r) σ=some xs:=aB h
theorem gy {σ:a0} {r:Nat} {xs:List AV} (h:σ.get r=some (.list xs)):l5 (.ref r) σ=some xs:=aB h
theorem lH: ∀(l:List Nat),(∀x∈l,x<256)->allInts (l.map λx=>AV.int ((x:Nat):Int))=some l
 | [],_=>rfl
 |x::l,h=>by
  have hx:=h x List.mem_cons_self
  rw [List.map_cons,allInts]
  refine (if_pos (c:=0≤((x:Nat):Int)/\((x:Nat):Int)<256) (by exact GL hx)).trans ?_
  rw [lH l λy hy=>h y (List.mem_cons_of_mem _ hy)]
  rfl
theorem jD {r:Nat} {l:List Nat} {σ:a0} (h:σ.get r=some (.list (l.map λx=>AV.int ((x:Nat):Int)))) (hs: ∀x∈l,x<256) (hl:l.length≤aw):fu 5 [.ref r] σ=some (.bytes l,σ):=by
 conv=>lhs;whnf;rw [h];whnf;rw [lH l hs]
 exact if_pos hl
theorem k8 {n:Nat} {σ:a0} (D:aR σ) {c:Nat} {l:List Nat} (hl:kj c=l) (hs: ∀x∈l,x<256) (hlen:l.length≤1000) {Q:AV->a0->Prop} (hQ: ∀σ',Gr no σ σ'->Q (.bytes l) σ'):callI (n+1) 0 [.str c] σ Q:=by
 refine aC (bs:= [(1, .str c)]) rfl rfl ?_
 intro R hr hn
 refine (?_:bE _ _ _ _ _ _ _ _ _ _)
 rw [hl]
 refine bC ((l.map AV.chr).map ([·])) (λk acc ρ s=>s=σ/\acc=(l.take k).map λx=>AV.int ((x:Nat):Int)) ?_ ?_ ?_ turns 0 [] _ σ (Nat.zero_le _) (by simp [aP];exact zN hlen) ⟨rfl,rfl⟩
 ·intro k acc ρ s _;exact j5
 ·rintro k acc ρ s vs ⟨rfl,rfl⟩ hx K hK
  refine get_m hx λx h1=>hK _ _ _ ⟨rfl, ?_⟩
  rw [List.take_add_one,h1,List.map_append]
  rfl
 ·rintro acc ρ s ⟨rfl,h⟩
  rw [List.take_of_length_le (by simp)] at h
  subst h
  refine a9 (cI af) (?_:dm _ _ _ _ _ _ _ _)
  refine cw (C:=callI n) ((l.map λx=>AV.int ((x:Nat):Int)).map ([·])) (λk ρ' s'=>s'=s.new (.list (l.map λx=>AV.int ((x:Nat):Int)))/\ρ' 0=some (.ref s.n)) ?_ ?_ ?_ turns 0 _ _ (Nat.zero_le _) (by simp [aP];exact zN hlen) ⟨rfl,rfl⟩
  ·rintro k ρ s ⟨rfl,_⟩;exact cq af
  ·rintro k ρ s vs ⟨rfl,h0⟩ hx K hK
   refine get_m hx λx h1=> ?_
   have dN:=hs x (List.mem_of_getElem? h1)
   refine aG (decide_eq_false (show¬((255:Int)<((x:Nat):Int)) by exact RQ dN)) ?_
   exact hK _ _ ⟨rfl,h0⟩
  ·rintro ρ2 σ2 ⟨rfl,h0⟩
   refine aa h0 (a9 (jD af hs (by unfold aw;exact Sd hlen)) ?_)
   exact hr _ _ _ (hQ _ (Gr.new D _))
theorem tM {C:aD} {σ1 σ2:a0} {o:AV} {m:Nat} {as:List AV} {Q:AV->a0->Prop} (h:gp σ1 o m=none) (h':cM σ1 o=cM σ2 o) (q:wV (d7 o m as σ2) Q):wM C σ1 o m as σ2 Q:=by
 unfold wM
 rw [h]
 exact ⟨h',q⟩
theorem bL {C:aD} {σ1 σ2:a0} {r m:Nat} {as ys:List AV} (h: ∃xs,σ1.get r=some (.list xs)) (h':σ2.get r=some (.list ys)) {Q:AV->a0->Prop} (q:wV (d7 (.ref r) m as σ2) Q):wM C σ1 (.ref r) m as σ2 Q:=by
 obtain ⟨xs,h⟩:=h
 exact tM (aB h) (by unfold cM;dsimp only;rw [h,h']) q
theorem hJ {C:aD} {σ1 σ2:a0} {r m:Nat} {as:List AV} {ct:List (AV×AV)} (h: ∃es,σ1.get r=some (.dict es)) (h':σ2.get r=some (.dict ct)) {Q:AV->a0->Prop} (q:wV (d7 (.ref r) m as σ2) Q):wM C σ1 (.ref r) m as σ2 Q:=by
 obtain ⟨es,h⟩:=h
 exact tM (aB h) (by unfold cM;dsimp only;rw [h,h']) q
theorem cV {C:aD} {σ1 σ2:a0} {r m c f:Nat} {fs:List (Nat×AV)} {as:List AV} (h:σ1.get r=some (.inst c fs)) (h1:flook m fs=none) (h2:xm c m=some f) {Q:AV->a0->Prop} (q:C f (.ref r::as) σ2 Q):wM C σ1 (.ref r) m as σ2 Q:=by
 have e:gp σ1 (.ref r) m=some f:=by
  refine (aB h).trans ?_
  dsimp only [wR]
  rw [h1]
  exact h2
 unfold wM
 rw [e]
 exact q
theorem cX {σ:a0} {r:Nat} {xs:List AV} {v:AV} (h:σ.get r=some (.list xs)) (hc:xs.length<aw):d7 (.ref r) 10 [v] σ=some (.none,σ.set r (.list (xs++ [v]))):=by
 conv=>lhs;whnf;rw [h]
 exact if_pos hc
theorem rR (l:List (List Nat)):et (l.map .bytes)=some l:=by
 induction l with
 |nil=>rfl
 |cons a l ih=>exact congrArg (Option.map (a:: ·)) ih
theorem yf {σ:a0} {q:Nat} {sep:List Nat} {bs:List (List Nat)} (h:σ.get q=some (.list (bs.map .bytes))) (hc:(joinB sep bs).length≤aw):d7 (.bytes sep) 33 [.ref q] σ=some (.bytes (joinB sep bs),σ):=by
 conv=>lhs;whnf;rw [h];whnf;rw [rR]
 exact if_pos hc
theorem Gj {σ:a0} {r:Nat} {xs:List AV} (h:σ.get r=some (.list xs)) (hc:xs.length≤aw):Aq (.ref r) σ=some (.ref σ.n,σ.new (.list xs.reverse)):=by
 conv=>lhs;whnf;rw [h]
 exact if_pos hc
theorem gS {l:List Nat} {k x:Nat} {σ:a0} (h:l[k]?=some x) (hl:l.length≤aw):bT (.bytes l) (.int (k:Nat)) σ=some (.int (x:Nat)):=by
 refine (if_pos (c:=(0:Int)≤((k:Nat):Int)/\l.length≤aw) ⟨Int.natCast_nonneg _,hl⟩).trans ?_
 rw [Int.toNat_natCast,h]
 rfl
theorem tg {test:Loc->a0->(AV->a0->Prop)->Prop} {body:Loc->a0->(Fl->Loc->a0->Prop)->Prop} {ρ:Loc} {σ:a0} {Q:Fl->Loc->a0->Prop} (h:test ρ σ λv σ1=>jN v (body ρ σ1 λfl ρ2 σ2=>match fl with| .ret v=>Q (.ret v) ρ2 σ2| .next=>d9 test body 4999 ρ2 σ2 Q| .cont=>d9 test body 4999 ρ2 σ2 Q) (Q .next ρ σ1)):d9 test body turns ρ σ Q:=by
 rw [aP]
 exact h
theorem Gr.bQ {S:Nat->Prop} {σ s:a0} (D:aR σ) (g:Gr S σ s) {d:Nat} {o o':AO} (hd:σ.n≤d) (h:s.get d=some o'):Gr S σ (s.set d o):=
 g.trans (Gr.set g.ar h o) (λ_ z=>z) λi yK e z=>by subst z;exact absurd (D _ _ e) (by exact Ru hd)
noncomputable def hx (k:Nat):Nat:=if k<10 then 48+k else 87+k
noncomputable def dK (l:List Nat):List Nat:=l.flatMap λx=> [hx (x/16),hx (x%16)]
theorem ew (l:List Nat):(dK l).length=2*l.length:=by
 induction l with
 |nil=>rfl
 |cons a l ih=>simp [dK] at ih⊢;exact Sb ih
noncomputable def ql:List Nat:= [48,49,50,51,52,53,54,55,56,57,97,98,99,100,101,102]
theorem qY {k:Nat} (h:k<16):ql[k]?=some (hx k):=by
 have: ∀k,k<16->ql[k]?=some (hx k):=by decide
 exact this k h
theorem wA {n:Nat} {σ:a0} (D:aR σ) {l:List Nat} (hs: ∀x∈l,x<256) (hlen:l.length≤1000) {Q:AV->a0->Prop} (hQ: ∀σ',Gr no σ σ'->Q (.bytes (dK l)) σ'):callI (n+1) 1 [.bytes l] σ Q:=by
 refine aC (bs:= [(8, .bytes l)]) rfl rfl ?_
 intro R hr hn
 refine (?_:dm _ _ _ _ _ _ _ _)
 have D0:aR (σ.new (.list [])):=(Gr.new D _).ar
 refine cw (C:=callI n) ((l.map λx=>AV.int ((x:Nat):Int)).map ([·])) (λk ρ s=>Gr no σ s/\s.get σ.n=some (.list ((dK (l.take k)).map λx=>AV.int ((x:Nat):Int)))/\ρ 7=some (.ref σ.n)/\ρ 6=some (.bytes ql)) ?_ ?_ ?_ turns 0 _ _ (Nat.zero_le _) (by simp [aP];exact zN hlen) ⟨Gr.new D _,af,rfl,rfl⟩
 ·rintro k ρ s _;exact j5
 ·rintro k ρ s vs ⟨g,hg,h7,h6⟩ yL K hK
  refine get_m yL λx h1=> ?_
  have dN:=hs x (List.mem_of_getElem? h1)
  have IY:k<l.length:=(List.getElem?_eq_some_iff.mp h1).1
  have uf:bin .shr (.int ((x:Nat):Int)) (.int 4) s=some (.int ((x/16:Nat):Int),s):=if_pos (by simp;exact GY dN)
  have yM: ∀s:a0,bT (.bytes ql) (.int ((x/16:Nat):Int)) s=some (.int ((hx (x/16):Nat):Int)):=λs=>gS (qY (k:=x/16) (by exact R8 dN)) (by decide)
  have pe: ∀s:a0,bin .band (.int ((x:Nat):Int)) (.int 15) s=some (.int ((x%16:Nat):Int),s):=λs=>if_pos (by simp;exact GY dN)
  have rY: ∀s:a0,bT (.bytes ql) (.int ((x%16:Nat):Int)) s=some (.int ((hx (x%16):Nat):Int)):=λs=>gS (qY (k:=x%16) (by exact Qi)) (by decide)
  have hl:((dK (l.take k)).map λx=>AV.int ((x:Nat):Int)).length<aw:=by
   rw [List.length_map,ew,List.length_take];unfold aw;exact Ra hlen
  have ug:(((dK (l.take k)).map λx=>AV.int ((x:Nat):Int))++ [AV.int ((hx (x/16):Nat):Int)]).length<aw:=by
   rw [List.length_append,List.length_map,ew,List.length_take];unfold aw;simp;exact Rm hlen
  refine (?_:wSs _ _ _ _ _)
  refine aa h7 (aa h6 (bw uf (a9 (yM _) (bL ⟨_,hg⟩ hg (a9 (cX hg hl) (aa h7 (aa h6 (bw (pe _) (a9 (rY _) (bL ⟨_,aF⟩ aF (a9 (cX aF ug) ?_)))))))))))
  refine hK _ _ ⟨(Gr.bQ D (Gr.bQ D g (Nat.le_refl _) hg) (Nat.le_refl _) aF), ?_,h7,h6⟩
  rw [aF,List.take_add_one,h1]
  simp [dK]
 ·rintro ρ2 σ2 ⟨g,h1,h2,h3⟩
  have h2:ρ2 7=some (.ref σ.n):=h2
  have h1:σ2.get σ.n=some (.list ((dK l).map λx=>AV.int ((x:Nat):Int))):=by
   rw [List.take_of_length_le (by simp)] at h1;exact h1
  have hb: ∀x∈dK l,x<256:=by
   intro y hy
   simp only [dK,List.mem_flatMap,List.mem_cons,List.not_mem_nil,or_false] at hy
   obtain ⟨x,lS,rfl|rfl⟩:=hy<;>(have:=hs x lS;unfold hx;split<;>omega)
  refine aa h2 (a9 (jD h1 hb (by rw [ew];unfold aw;exact Se hlen)) ?_)
  exact hr _ _ _ (hQ _ g)
theorem jY {n:Nat} {σ:a0} (D:aR σ) {k:Nat} (hk:k<10) {Q:AV->a0->Prop} (hQ: ∀σ',Gr no σ σ'->Q (.bytes [48+k]) σ'):callI (n+1) 2 [.int ((k:Nat):Int)] σ Q:=by
 refine aC (bs:= [(4, .int ((k:Nat):Int))]) rfl rfl ?_
 intro R hr hn
 have e:(48+((k:Nat):Int)%10)=((48+k:Nat):Int):=by exact RD hk
 have e2: ∀σ:a0,bin .div (.int ((k:Nat):Int)) (.int 10) σ=some (.int 0,σ):=λ_=>by
  refine Eq.trans (if_pos ?_) ?_
  ·exact ⟨by decide,by simp [small];exact Qv hk,by decide⟩
  rw [Int.ediv_eq_zero_of_lt (by exact Sj) (by exact QR hk)]
 refine bw (e2 _) (tg (?_:oB _ _))
 refine a9 (Gj af (Nat.le_of_ble_eq_true rfl)) (a9 (jD (l:= [48+k]) (by rw [af];show some (AO.list [.int (48+((k:Nat):Int)%10)])=_;rw [e];rfl) (by simp;exact RJ hk) (Nat.le_of_ble_eq_true rfl)) ?_)
 exact hr _ _ _ (hQ _ ((Gr.new D _).then (Gr.new (Gr.new D _).ar _)))
inductive Kd|arr|str|az deriving DecidableEq
noncomputable def Kd.code:Kd->Nat
 | .arr=>15
 | .str=>19
 | .az=>16
noncomputable def Kd.fM:Kd->List Nat
 | .arr=> [97,114,114,97,121]
 | .str=> [115,116,114,105,110,103]
 | .az=> [100,105,99,116]
set_option genCtorIdx false in
inductive It
 |num (k:Nat)|obj (kd:Kd) (b st mn:Nat) (ex:Bool) (ac:Nat)
structure Bd where
 kd:Kd
 ocs:List Nat
 aj:List It
 ac:Nat
noncomputable def aY:Bd:=⟨.arr, [], [],0⟩
structure Sh where
 bs:List Bd
 st:List It
structure TS where
 known:List Nat
 left:Nat->Nat
noncomputable def kx:List Nat:= [105,110,116,101,103,101,114]
noncomputable def fG:List Nat:= [108,110,97,109,101,60,54,49,62]
noncomputable def tellList (f:It->TS->List Nat×TS):List It->TS->List (List Nat)×TS
 | [],s=>([],s)
 |it::r,s=>((f it s).1::(tellList f r (f it s).2).1,(tellList f r (f it s).2).2)
noncomputable def meet (s:TS) (b:Nat):TS:=if s.known.contains b then s else {s with known:=s.known++ [b]}
noncomputable def head (sh:Sh) (s:TS) (kd:Kd) (b st mn:Nat) (ex:Bool) (ac:Nat):List Nat:=
 [if ex then 120 else 108]++kd.fM++ [48+(if kd= .az then (sh.bs.getD b aY).ac else ac)]++ [35,48+(meet s b).known.idxOf b]++(if kd= .az then [] else [64,48+st,43,48+mn])
noncomputable def bo (s:TS) (b l:Nat):TS:={s with left:=λx=>if x=b then l else s.left x}
noncomputable def tellW (sh:Sh) (w:List It->TS->List (List Nat)×TS) (left:Nat):It->TS->List Nat×TS
 | .num k,s=>([108]++kx++ [48+k],s)
 | .obj .str b st mn ex ac,s=>(head sh s .str b st mn ex ac++(if s.known.contains b then [] else [60]++dK (sh.bs.getD b aY).ocs++ [62]),meet s b)
 | .obj kd b st mn ex ac,s=>if left≤s.left b then (head sh s kd b st mn ex ac,meet s b)
  else (head sh s kd b st mn ex ac++ [40]++joinB [32] ((w (sh.bs.getD b aY).aj (bo (meet s b) b left)).1.map λx=>(if kd= .az then fG++ [61] else [])++x)++ [41],(w (sh.bs.getD b aY).aj (bo (meet s b) b left)).2)
noncomputable def tell (sh:Sh):Nat->It->TS->List Nat×TS
 |0=>tellW sh (λ_ s=>([],s)) 0
 |l+1=>tellW sh (tellList (tell sh l)) (l+1)
noncomputable def TS.zero:TS:=⟨[],λ_=>0⟩
noncomputable def bf (sh:Sh) (depth:Nat):List Nat:=joinB [] ((tellList (tell sh depth) sh.st TS.zero).1.map (· ++ [10]))
noncomputable def Bd.size (b:Bd):Nat:=match b.kd with
 | .str=>b.ocs.length
 |_=>b.aj.length
noncomputable def aZ (bs:List Bd):It->Prop
 | .num k=>k≤3
 | .obj kd b st mn ex ac=>(∃bd,bs[b]?=some bd/\bd.kd=kd/\st+mn=bd.size)/\st≤1/\mn≤3/\(kd= .az->st=0)/\2≤ac/\ac≤3
structure bk (bs:List Bd) (b:Bd):Prop where
 aj: ∀it∈b.aj,aZ bs it
 str:b.kd= .str->b.aj= []/\b.ocs.length=3/\ ∀x∈b.ocs,x=97∨x=98
 arr:b.kd= .arr->2≤b.aj.length/\b.aj.length≤3
 az:b.kd= .az->b.aj.length=1
 ac:2≤b.ac/\b.ac≤3
structure WF (sh:Sh):Prop where
 nb:2≤sh.bs.length/\sh.bs.length≤8
 ok: ∀b∈sh.bs,bk sh.bs b
 st: ∀it∈sh.st,aZ sh.bs it
 ns:2≤sh.st.length/\sh.st.length≤3
noncomputable def hZ (bd st mn:Nat):AO:= .inst 67 [(20, .ref bd),(53, .int (st:Nat)),(47, .int (mn:Nat))]
noncomputable def bP (k:Nat) (v:AV) (ex:Bool) (ac:Nat):AO:= .inst 65 [(13, .str k),(17,v),(104, .bool ex),(21, .int (ac:Nat))]
noncomputable def k0 (σ:a0) (made:List Nat) (kd:Kd) (b st mn:Nat) (v:AV):Prop:=match kd with
 | .az=> ∃r,made[b]?=some r/\v= .ref r
 |_=> ∃r s,made[b]?=some r/\v= .ref s/\σ.get s=some (hZ r st mn)
noncomputable def dJ (σ:a0) (made:List Nat):It->Nat->Prop
 | .num k,r=>σ.get r=some (bP 49 (.int (k:Nat)) false 3)
 | .obj kd b st mn ex ac,r=> ∃v a,σ.get r=some (bP kd.code v ex a)/\k0 σ made kd b st mn v/\(kd≠ .az->a=ac)
noncomputable def BdR (σ:a0) (made:List Nat) (num:Int) (bd:Bd) (r:Nat):Prop:=match bd.kd with
 | .str=> ∃ba,σ.get r=some (.inst 69 [(4, .int num),(8, .ref ba),(106, .bool false),(89, .int 0)])/\σ.get ba=some (.fL bd.ocs)
 | .arr=> ∃L rs,σ.get r=some (.inst 70 [(4, .int num),(39, .ref L),(106, .bool false),(89, .int 0)])/\σ.get L=some (.list (rs.map .ref))/\ae (dJ σ made) bd.aj rs
 | .az=> ∃E k p kt vt it ks,σ.get r=some (.inst 71 [(4, .int num),(107, .int 1),(106, .bool false),(89, .int 0),(21, .int (bd.ac:Nat)),(75, .ref E)])/\σ.get E=some (.dict [(.ref k, .ref p)])/\σ.get k=some (.tup ks)/\ks.all j7=true/\
   σ.get p=some (.tup [.ref kt, .ref vt])/\σ.get kt=some (bP 77 (.bytes [97]) false 3)/\bd.aj= [it]/\dJ σ made it vt
structure jM (σ:a0) (made:List Nat) (num:Nat->Int) (bs:List Bd):Prop where
 len:made.length=bs.length
 bd: ∀{i:Nat} {b:Bd} {r:Nat},bs[i]?=some b->made[i]?=some r->BdR σ made (num i) b r
section
variable {S:Nat->Prop} {σ σ':a0} {made:List Nat}
theorem k0.keep {kd:Kd} {b st mn:Nat} {v:AV} (h:k0 σ made kd b st mn v) (k: ∀i o,σ.get i=some o->σ'.get i=some o):k0 σ' made kd b st mn v:=by
 cases kd with
 |az=>exact h
 |arr=>obtain ⟨r,s,h1,h2,h3⟩:=h;exact ⟨r,s,h1,h2,k _ _ h3⟩
 |str=>obtain ⟨r,s,h1,h2,h3⟩:=h;exact ⟨r,s,h1,h2,k _ _ h3⟩
theorem dJ.keep {it:It} {r:Nat} (h:dJ σ made it r) (k: ∀i o,σ.get i=some o->σ'.get i=some o):dJ σ' made it r:=by
 cases it with
 |num n=>exact k _ _ h
 |obj kd b st mn ex ac=>obtain ⟨v,a,h1,h2,h3⟩:=h;exact ⟨v,a,k _ _ h1,h2.keep k,h3⟩
theorem BdR.keep {n:Int} {bd:Bd} {r:Nat} (h:BdR σ made n bd r) (k: ∀i o,σ.get i=some o->σ'.get i=some o):BdR σ' made n bd r:=by
 unfold BdR at h⊢
 split at h
 ·obtain ⟨ba,h1,h2⟩:=h;exact ⟨ba,k _ _ h1,k _ _ h2⟩
 ·obtain ⟨L,rs,h1,h2,h3⟩:=h;exact ⟨L,rs,k _ _ h1,k _ _ h2,h3.imp λ_ _ z=>z.keep k⟩
 ·obtain ⟨E,kk,p,kt,vt,it,ks,h1,h2,h3,h4,h5,h6,h7,h8⟩:=h
  exact ⟨E,kk,p,kt,vt,it,ks,k _ _ h1,k _ _ h2,k _ _ h3,h4,k _ _ h5,k _ _ h6,h7,h8.keep k⟩
theorem jM.keep {num:Nat->Int} {bs:List Bd} (h:jM σ made num bs) (k: ∀i o,σ.get i=some o->σ'.get i=some o):jM σ' made num bs:=⟨h.len,λa b=>(h.bd a b).keep k⟩
theorem jM.at {num:Nat->Int} {bs:List Bd} (h:jM σ made num bs) {i:Nat} {b:Bd} (e:bs[i]?=some b): ∃r,made[i]?=some r/\BdR σ made (num i) b r:=by
 have hl:i<made.length:=by rw [h.len];exact (List.getElem?_eq_some_iff.mp e).1
 exact ⟨made[i],List.getElem?_eq_getElem hl,h.bd e (List.getElem?_eq_getElem hl)⟩
theorem aQ {C r x:Nat} {fs:List (Nat×AV)} {v:AV} (h:σ.get r=some (.inst C fs)) (hf:fld C x=true) (hl:flook x fs=some v) (hv:gz v=true):bz (.ref r) x σ=some v:=by
 refine (aB h).trans ((if_pos hf).trans ?_)
 rw [hl]
 exact if_pos hv
theorem aJ {k:Nat} {v:AV} {ex:Bool} {ac r:Nat} (h:σ.get r=some (bP k v ex ac)):bz (.ref r) 13 σ=some (.str k):=aQ h rfl rfl rfl
theorem ck {k:Nat} {v:AV} {ex:Bool} {ac r:Nat} (h:σ.get r=some (bP k v ex ac)) (hv:gz v=true):bz (.ref r) 17 σ=some v:=aQ h rfl rfl hv
theorem mh {k:Nat} {v:AV} {ex:Bool} {ac r:Nat} (h:σ.get r=some (bP k v ex ac)):bz (.ref r) 104 σ=some (.bool ex):=aQ h rfl rfl rfl
theorem rU {k:Nat} {v:AV} {ex:Bool} {ac r:Nat} (h:σ.get r=some (bP k v ex ac)):bz (.ref r) 21 σ=some (.int (ac:Nat)):=aQ h rfl rfl rfl
theorem hY {b st mn r:Nat} (h:σ.get r=some (hZ b st mn)):bz (.ref r) 20 σ=some (.ref b):=aQ h rfl rfl rfl
theorem DE {b st mn r:Nat} (h:σ.get r=some (hZ b st mn)):bz (.ref r) 53 σ=some (.int (st:Nat)):=aQ h rfl rfl rfl
theorem Ej {b st mn r:Nat} (h:σ.get r=some (hZ b st mn)):bz (.ref r) 47 σ=some (.int (mn:Nat)):=aQ h rfl rfl rfl
theorem FH: ∀k:Kd,¬k.code=22
 | .arr| .str| .az=>by decide
theorem iY: ∀k:Kd,k≠ .str-> ¬k.code=19
 | .arr,_| .az,_=>by decide
 | .str,h=>absurd rfl h
theorem FZ: ∀k:Kd,fF .isin (.str k.code) (.gJ 114) σ=some true
 | .arr| .str| .az=>rfl
theorem FA: ∀k:Kd,kj k.code=k.fM
 | .arr| .str| .az=>by decide
theorem HX: ∀k:Kd,∀x∈k.fM,x<256
 | .arr| .str| .az=>by decide
theorem jf {n:Nat} {k:Nat} {v:AV} {ex:Bool} {ac r:Nat} (h:σ.get r=some (bP k v ex ac)) (hk:k≠14) {Q:AV->a0->Prop} (hQ:Q (.bool (decide (k=15))) σ):callI (n+1) 3 [.ref r] σ Q:=by
 refine aC (bs:= [(12, .ref r)]) rfl rfl ?_
 intro R hr hn
 by_cases h1:k=15
 ·rw [decide_eq_true h1] at hQ
  refine a9 (aJ h) (bb (decide_eq_true h1) ?_)
  exact hr _ _ _ hQ
 ·rw [decide_eq_false h1,←decide_eq_false hk] at hQ
  refine a9 (aJ h) (aG (decide_eq_false h1) (a9 (aJ h) ?_))
  exact hr _ _ _ hQ
theorem xi {n:Nat} {kd:Kd} {v:AV} {ex:Bool} {ac r b st mn:Nat} (h:σ.get r=some (bP kd.code v ex ac)) (hv:k0 σ made kd b st mn v) {Q:AV->a0->Prop} (hQ: ∀q,made[b]?=some q->Q (.ref q) σ):callI (n+2) 4 [.ref r] σ Q:=by
 refine aC (bs:= [(12, .ref r)]) rfl rfl ?_
 intro R hr hn
 cases kd with
 |az=>
  obtain ⟨q,h1,rfl⟩:=hv
  refine a9 (aJ h) (a9 (ck h rfl) ?_)
  exact hr _ _ _ (hQ q h1)
 |str=>
  obtain ⟨q,s,h1,rfl,h2⟩:=hv
  refine a9 (aJ h) (a9 (aJ h) (a9 (ck h rfl) (a9 (hY h2) ?_)))
  exact hr _ _ _ (hQ q h1)
 |arr=>
  obtain ⟨q,s,h1,rfl,h2⟩:=hv
  refine a9 (aJ h) (a9 (aJ h) (?_:callI _ _ _ _ _))
  refine jf h (by decide) ?_
  refine a9 (ck h rfl) (a9 (hY h2) ?_)
  exact hr _ _ _ (hQ q h1)
theorem Hg {num:Int} {bd:Bd} {r:Nat} (h:BdR σ made num bd r):bz (.ref r) 4 σ=some (.int num):=by
 unfold BdR at h
 split at h
 ·obtain ⟨ba,h1,h2⟩:=h;exact aQ h1 rfl rfl rfl
 ·obtain ⟨L,rs,h1,_⟩:=h;exact aQ h1 rfl rfl rfl
 ·obtain ⟨E,kk,p,kt,vt,it,ks,h1,_⟩:=h;exact aQ h1 rfl rfl rfl
theorem vK {n:Nat} (D:aR σ) {num:Nat->Int} {bs:List Bd} (M:jM σ made num bs) {kd:Kd} {v:AV} {ex:Bool} {ac r b st mn:Nat} (hb:b<bs.length) (h:σ.get r=some (bP kd.code v ex ac)) (hv:k0 σ made kd b st mn v)
  {Q:AV->a0->Prop} (hQ: ∀t σ',σ'.get t=some (.tup [.str 20, .int (num b)])->Gr no σ σ'->σ.n≤t->Q (.ref t) σ'):callI (n+3) 6 [.ref r] σ Q:=by
 refine aC (bs:= [(12, .ref r)]) rfl rfl ?_
 intro R hr lT
 refine a9 (aJ h) (aG (decide_eq_false (FH kd)) (?_:callI _ _ _ _ _))
 refine xi h hv λq h1=> ?_
 refine a9 (Hg (M.bd (List.getElem?_eq_getElem hb) h1)) ?_
 exact hr _ _ _ (hQ _ _ af (Gr.new D _) (Nat.le_refl _))
end
noncomputable def ek (num:Nat->Int) (b:Nat):AO:= .tup [.str 20, .int (num b)]
noncomputable def cZ (σ:a0) (num:Nat->Int) (p:Nat×Nat) (e:AV×AV):Prop:= ∃t,e=(.ref t, .int (p.2:Nat))/\σ.get t=some (ek num p.1)
noncomputable def putL (b l:Nat):List (Nat×Nat)->List (Nat×Nat)
 | []=> [(b,l)]
 |p::r=>if p.1=b then (b,l)::r else p::putL b l r
structure dD (σ:a0) (num:Nat->Int) (N t kd ld:Nat) (s:TS):Prop where
 t: ∃dp,σ.get t=some (.inst 36 [(35,dp),(112, .ref kd),(113, .ref ld)])
 k: ∃es,σ.get kd=some (.dict es)/\ae (cZ σ num) s.known.zipIdx es
 kn:s.known.Nodup/\ ∀b∈s.known,b<N
 ne:kd≠ld
 l: ∃es lr,σ.get ld=some (.dict es)/\ae (cZ σ num) lr es/\(∀b,s.left b=(lr.lookup b).getD 0)/\(lr.map (·.1)).Nodup/\ ∀b∈lr.map (·.1),b<N
theorem fC: ∀(N:Nat) (l:List Nat),l.Nodup->(∀x∈l,x<N)->l.length≤N
 |0,l,_,h=>by
  cases l with
  |nil=>exact Nat.le_refl _
  |cons a l=>exact absurd (h a List.mem_cons_self) (Nat.not_lt_zero _)
 |N+1,l,nd,h=>by
  have:=fC N (l.erase N) (nd.erase N) λx hx=>by
   have:=(nd.mem_erase_iff).mp hx
   have:=h x this.2
   omega
  rw [List.length_erase] at this
  split at this<;>omega
theorem lK {b l:Nat} (x:Nat): ∀L:List (Nat×Nat),(putL b l L).lookup x=if x=b then some l else L.lookup x
 | []=>by
  rw [putL,List.lookup_cons]
  by_cases h:x=b
  ·rw [h,beq_self_eq_true,if_pos rfl]
  ·rw [beq_eq_false_iff_ne.mpr h,if_neg h]
 |p::r=>by
  rw [putL]
  by_cases hp:p.1=b
  ·rw [if_pos hp,List.lookup_cons,List.lookup_cons,hp]
   by_cases h:x=b
   ·rw [h,beq_self_eq_true,if_pos rfl]
   ·rw [beq_eq_false_iff_ne.mpr h,if_neg h]
  ·rw [if_neg hp,List.lookup_cons,List.lookup_cons,lK x r]
   by_cases h:x=b
   ·rw [if_pos h,if_pos h,h,beq_eq_false_iff_ne.mpr (Ne.symm hp)]
   ·rw [if_neg h,if_neg h]
theorem gW {b l:Nat}: ∀L:List (Nat×Nat),(b∈L.map (·.1)/\(putL b l L).map (·.1)=L.map (·.1))∨(b∉L.map (·.1)/\(putL b l L).map (·.1)=L.map (·.1)++ [b]/\putL b l L=L++ [(b,l)])
 | []=> .inr ⟨List.not_mem_nil,rfl,rfl⟩
 |p::r=>by
  rw [putL,List.map_cons,List.mem_cons]
  by_cases hp:p.1=b
  ·rw [if_pos hp,List.map_cons,hp]
   exact .inl ⟨.inl rfl,rfl⟩
  ·rw [if_neg hp,List.map_cons]
   rcases gW r with ⟨h1,h2⟩|⟨h1,h2,h3⟩
   ·exact .inl ⟨.inr h1,by rw [h2]⟩
   ·exact .inr ⟨λz=>z.elim (λz=>hp z.symm) h1,by rw [h2];rfl,by rw [h3];rfl⟩
theorem m8: ∀(l:List Nat) (i:Nat),(l.zipIdx i).map (·.1)=l
 | [],_=>rfl
 |a::l,i=>congrArg (a:: ·) (m8 l (i+1))
theorem jj {b:Nat}: ∀{l:List Nat} (i:Nat),b∈l->(l.zipIdx i).lookup b=some (i+l.idxOf b)
 | [],_,h=>nomatch h
 |a::l,i,h=>by
  rw [List.zipIdx_cons,List.lookup_cons,List.idxOf_cons]
  by_cases e:a=b
  ·rw [e,beq_self_eq_true];rfl
  ·rw [beq_eq_false_iff_ne.mpr (Ne.symm e),beq_eq_false_iff_ne.mpr e,cond_false]
   refine (jj (i+1) ((List.mem_cons.mp h).resolve_left (Ne.symm e))).trans (congrArg some ?_)
   exact Qr
theorem lookup_none {b:Nat}: ∀{L:List (Nat×Nat)},b∉L.map (·.1)->L.lookup b=none
 | [],_=>rfl
 |p::L,h=>by
  have hp:b≠p.1:=λe=>h (by rw [e];exact List.mem_cons_self)
  rw [List.lookup_cons,beq_eq_false_iff_ne.mpr hp]
  exact lookup_none λz=>h (List.mem_cons_of_mem _ z)
section
variable {σ σ':a0} {num:Nat->Int} {L:List (Nat×Nat)} {es:List (AV×AV)} {t b l:Nat}
theorem cZ.keep (k: ∀i o,σ.get i=some o->σ'.get i=some o) {p:Nat×Nat} {e:AV×AV} (h:cZ σ num p e):cZ σ' num p e:=let ⟨t,e,h⟩:=h;⟨t,e,k _ _ h⟩
theorem cZ.pV {d:Nat} {UM:List (AV×AV)} (hd:σ.get d=some (.dict UM)) (k: ∀i o,¬i=d->σ.get i=some o->σ'.get i=some o) {p:Nat×Nat} {e:AV×AV} (h:cZ σ num p e):cZ σ' num p e:=
 let ⟨t,e,h⟩:=h;⟨t,e,k _ _ (λz=>by rw [z,hd] at h;cases h) h⟩
theorem Fs {x y:Int}:flatsEq [.str 20, .int x] [.str 20, .int y]=some (decide (x=y)):=by
 show (match some (decide (x=y)) with|some true=>some true|some false=>some false|none=>none)=_
 cases decide (x=y)<;>rfl
theorem xx {a b x y:Nat} (ha:σ.get a=some (ek num x)) (hb:σ.get b=some (ek num y)):cC σ (.ref a) (.ref b)=some (decide (num x=num y)):=
 (aB ha).trans ((aB hb).trans Fs)
theorem kJ (h:σ.get t=some (ek num b)):isKey σ (.ref t)=true:=by
 show k7 (σ.get t)=true
 rw [h]
 rfl
theorem jn {k:AV} {x:Option (Option AV)} (h:isKey σ k=true) (e:dget σ k es=x):cJ σ k es=x:=(if_pos h).trans e
theorem m5 {k v:AV} {x:Option (List (AV×AV))} (h:isKey σ k=true) (e:dput σ k v es=x):pT σ k v es=x:=(if_pos h).trans e
theorem j8 {r:Nat} {k v:AV} {ct:List (AV×AV)} (h:σ.get r=some (.dict es)) (hc:es.length≤aw) (e:pT σ k v es=some ct):gi (.ref r) k v σ=some (σ.set r (.dict ct)):=
 (aB h).trans ((if_pos hc).trans (congrArg (Option.map _) e))
theorem cZ.get (inj: ∀a b,num a=num b->a=b) (ht:σ.get t=some (ek num b)): ∀{L:List (Nat×Nat)} {es:List (AV×AV)},ae (cZ σ num) L es->dget σ (.ref t) es=some ((L.lookup b).map λl=> .int ((l:Nat):Int))
 |_,_, .nil=>rfl
 |p::_,_, .cons ⟨_,h,h1⟩ h2=>by
  rw [h,dget,xx h1 ht,List.lookup_cons]
  by_cases h:p.1=b
  ·rw [decide_eq_true (congrArg num h),h,beq_self_eq_true];rfl
  ·rw [decide_eq_false λz=>h (inj _ _ z),beq_eq_false_iff_ne.mpr (Ne.symm h)]
   exact cZ.get inj ht h2
theorem cZ.put (inj: ∀a b,num a=num b->a=b) (ht:σ.get t=some (ek num b)): ∀{L:List (Nat×Nat)} {es:List (AV×AV)},ae (cZ σ num) L es-> ∃ct,dput σ (.ref t) (.int ((l:Nat):Int)) es=some ct/\ae (cZ σ num) (putL b l L) ct
 |_,_, .nil=>⟨_,rfl, .cons ⟨t,rfl,ht⟩ .nil⟩
 |p::_,_, .cons ⟨t',h,h1⟩ h2=>by
  rw [h,dput,xx h1 ht,putL]
  by_cases h:p.1=b
  ·rw [decide_eq_true (congrArg num h),if_pos h]
   exact ⟨_,rfl, .cons ⟨t',rfl,h▸h1⟩ h2⟩
  ·rw [decide_eq_false λz=>h (inj _ _ z),if_neg h]
   obtain ⟨ct,e,A⟩:=cZ.put inj ht h2
   exact ⟨_,congrArg (Option.map _) e, .cons ⟨t',rfl,h1⟩ A⟩
variable {N kd ld:Nat} {s:TS}
noncomputable abbrev KL (kd ld:Nat):Nat->Prop:=λi=>i=kd∨i=ld
theorem dD.keep (h:dD σ num N t kd ld s) (k: ∀i o,σ.get i=some o->σ'.get i=some o):dD σ' num N t kd ld s:=
 ⟨let ⟨dp,h⟩:=h.t;⟨dp,k _ _ h⟩,let ⟨es,h,A⟩:=h.k;⟨es,k _ _ h,A.imp λ_ _=>cZ.keep k⟩,h.kn,h.ne,let ⟨es,lr,h,A,z⟩:=h.l;⟨es,lr,k _ _ h,A.imp λ_ _=>cZ.keep k,z⟩⟩
theorem dD.vD (h:dD σ num N t kd ld s):bz (.ref t) 112 σ=some (.ref kd):=let ⟨_,h1⟩:=h.t;aQ h1 rfl rfl rfl
theorem dD.I7 (h:dD σ num N t kd ld s):bz (.ref t) 113 σ=some (.ref ld):=let ⟨_,h1⟩:=h.t;aQ h1 rfl rfl rfl
theorem dD.small (h:dD σ num N t kd ld s):s.known.length≤N:=fC N _ h.kn.1 h.kn.2
theorem dD.l9 (inj: ∀a b,num a=num b->a=b) (h:dD σ num N t kd ld s) {k b:Nat} (hk:σ.get k=some (ek num b)):fF .l9 (.ref k) (.ref kd) σ=some (!s.known.contains b):=by
 obtain ⟨es,h2,h3⟩:=h.k
 have e:inv (.ref k) (.ref kd) σ=(cJ σ (.ref k) es).map Option.isSome:=aB h2
 refine congrArg (Option.map (!·)) (e.trans ((congrArg (Option.map Option.isSome) (jn (kJ hk) (cZ.get inj hk h3))).trans (congrArg some (a₂:=s.known.contains b) ?_)))
 by_cases hb:b∈s.known
 ·rw [jj 0 hb,List.contains_iff_mem.mpr hb];rfl
 ·rw [lookup_none (by rw [m8];exact hb),Bool.eq_false_iff.mpr λz=>hb (List.contains_iff_mem.mp z)];rfl
theorem dD.Rp (hN:N≤aw) (h:dD σ num N t kd ld s):fu 51 [.ref kd] σ=some (.int (s.known.length:Nat),σ):=by
 obtain ⟨es,h2,h3⟩:=h.k
 have h3:=h3.len
 rw [List.length_zipIdx] at h3
 refine (aB h2).trans ?_
 rw [h3]
 exact if_pos (h3▸Nat.le_trans h.small hN)
theorem dD.numAt (inj: ∀a b,num a=num b->a=b) (h:dD σ num N t kd ld s) {k b:Nat} (hk:σ.get k=some (ek num b)) (hb:b∈s.known):bT (.ref kd) (.ref k) σ=some (.int ((s.known.idxOf b:Nat):Int)):=by
 obtain ⟨es,h2,h3⟩:=h.k
 have e:=jn (kJ hk) (cZ.get inj hk h3)
 rw [jj 0 hb,Nat.zero_add] at e
 refine (aB h2).trans ?_
 dsimp only
 rw [e]
 rfl
theorem dD.left (inj: ∀a b,num a=num b->a=b) (h:dD σ num N t kd ld s) {k b:Nat} (hk:σ.get k=some (ek num b)):d7 (.ref ld) 55 [.ref k, .int 0] σ=some (.int ((s.left b:Nat):Int),σ):=by
 obtain ⟨es,lr,h2,h3,h4,_⟩:=h.l
 have e:=jn (kJ hk) (cZ.get inj hk h3)
 rw [h4]
 conv=>lhs;whnf;rw [h2];whnf;rw [e]
 cases lr.lookup b<;>rfl
theorem dD.meet (inj: ∀a b,num a=num b->a=b) (D:aR σ) (hN:N≤aw) (h:dD σ num N t kd ld s) {k b:Nat} (hk:σ.get k=some (ek num b)) (hb:b∉s.known) (IZ:b<N):
  ∃σ',gi (.ref kd) (.ref k) (.int (s.known.length:Nat)) σ=some σ'/\dD σ' num N t kd ld (Mine.Internal.C.meet s b)/\Gr (KL kd ld) σ σ':=by
 have hs:=h.small
 obtain ⟨⟨dp,h1⟩,⟨es,h2,h3⟩,h4,d0,⟨ct,lr,h5,h6,h7⟩⟩:=h
 obtain ⟨yN,e,A⟩:=cZ.put (l:=s.known.length) inj hk h3
 have kp:=(Gr.set D h2 (.dict yN)).keep
 have hm:Mine.Internal.C.meet s b=⟨s.known++ [b],s.left⟩:=if_neg λz=>hb (List.contains_iff_mem.mp z)
 have hl:=h3.len
 rw [List.length_zipIdx] at hl
 have hz:putL b s.known.length s.known.zipIdx=(s.known++ [b]).zipIdx:=by
  rcases gW (b:=b) (l:=s.known.length) s.known.zipIdx with ⟨z,_⟩|⟨_,_,z⟩
  ·rw [m8] at z;exact absurd z hb
  ·rw [z,List.zipIdx_append,Nat.zero_add];rfl
 rw [hz] at A
 rw [hm]
 refine ⟨_,j8 h2 (by exact QY hN hs hl) (m5 (kJ hk) e),⟨⟨dp,kp _ _ (λz=>by rw [z,h2] at h1;cases h1) h1⟩,⟨yN,aF,A.imp λ_ _=>cZ.pV h2 kp⟩,⟨?_,λx hx=> ?_⟩,d0,⟨ct,lr,kp _ _ (Ne.symm d0) h5,h6.imp λ_ _=>cZ.pV h2 kp,h7⟩⟩,(Gr.set D h2 _).weak λi z=> .inl z⟩
 ·exact List.nodup_append.mpr ⟨h4.1,List.nodup_cons.mpr ⟨List.not_mem_nil,List.nodup_nil⟩,λx hx y hy z=>hb (List.mem_singleton.mp hy▸z▸hx)⟩
 ·rcases List.mem_append.mp hx with hx|hx
  ·exact h4.2 x hx
  ·exact List.mem_singleton.mp hx▸IZ
theorem dD.qm (inj: ∀a b,num a=num b->a=b) (D:aR σ) (hN:N≤aw) (h:dD σ num N t kd ld s) {k b l:Nat} (hk:σ.get k=some (ek num b)) (IZ:b<N):
  ∃σ',gi (.ref ld) (.ref k) (.int (l:Nat)) σ=some σ'/\dD σ' num N t kd ld (bo s b l)/\Gr (KL kd ld) σ σ':=by
 obtain ⟨⟨dp,h1⟩,⟨es,h2,h3⟩,h4,d0,⟨ct,lr,h5,h6,h7,h8,h9⟩⟩:=h
 obtain ⟨yN,e,A⟩:=cZ.put (l:=l) inj hk h6
 have kp:=(Gr.set D h5 (.dict yN)).keep
 have hl:ct.length≤N:=by
  have:=fC N _ h8 h9
  rw [List.length_map] at this
  exact h6.len▸this
 refine ⟨_,j8 h5 (Nat.le_trans hl hN) (m5 (kJ hk) e),⟨⟨dp,kp _ _ (λz=>by rw [z,h5] at h1;cases h1) h1⟩,⟨es,kp _ _ d0 h2,h3.imp λ_ _=>cZ.pV h5 kp⟩,h4,d0,⟨yN,putL b l lr,aF,A.imp λ_ _=>cZ.pV h5 kp,λx=> ?_, ?_, ?_⟩⟩,(Gr.set D h5 _).weak λi z=> .inr z⟩
 ·rw [lK]
  show (if x=b then l else s.left x)=_
  by_cases hx:x=b
  ·rw [if_pos hx,if_pos hx];rfl
  ·rw [if_neg hx,if_neg hx];exact h7 x
 ·rcases gW (b:=b) (l:=l) lr with ⟨_,z⟩|⟨n,z,_⟩
  ·rw [z];exact h8
  ·rw [z];exact List.nodup_append.mpr ⟨h8,List.nodup_cons.mpr ⟨List.not_mem_nil,List.nodup_nil⟩,λx hx y hy z=>n (List.mem_singleton.mp hy▸z▸hx)⟩
 ·intro x hx
  rcases gW (b:=b) (l:=l) lr with ⟨_,z⟩|⟨n,z,_⟩
  ·exact h9 x (z▸hx)
  ·rw [z] at hx
   rcases List.mem_append.mp hx with hx|hx
   ·exact h9 x hx
   ·exact List.mem_singleton.mp hx▸IZ
end
noncomputable def fy (sh:Sh) (kd:Kd) (b ac:Nat):Nat:=if kd= .az then (sh.bs.getD b aY).ac else ac
noncomputable def ahead (s:TS) (kd:Kd) (b st mn:Nat):List Nat:= [35,48+(meet s b).known.idxOf b]++(if kd= .az then [] else [64,48+st,43,48+mn])
noncomputable def sharedO (sh:Sh) (w:List It->TS->List (List Nat)×TS) (left:Nat) (kd:Kd) (b st mn:Nat) (s:TS):List Nat×TS:=match kd with
 | .str=>(ahead s .str b st mn++(if s.known.contains b then [] else [60]++dK (sh.bs.getD b aY).ocs++ [62]),meet s b)
 |kd=>if left≤s.left b then (ahead s kd b st mn,meet s b)
  else (ahead s kd b st mn++ [40]++joinB [32] ((w (sh.bs.getD b aY).aj (bo (meet s b) b left)).1.map λx=>(if kd= .az then fG++ [61] else [])++x)++ [41],(w (sh.bs.getD b aY).aj (bo (meet s b) b left)).2)
theorem du {sh:Sh} {w:List It->TS->List (List Nat)×TS} {left:Nat} {kd:Kd} {b st mn:Nat} {ex:Bool} {ac:Nat} {s:TS}:
  tellW sh w left (.obj kd b st mn ex ac) s=([if ex then 120 else 108]++kd.fM++ [48+fy sh kd b ac]++(sharedO sh w left kd b st mn s).1,(sharedO sh w left kd b st mn s).2):=by
 cases kd<;>simp only [tellW,sharedO,Mine.Internal.C.head,ahead,fy]<;>(try split)<;>simp
theorem dt (sep:List Nat) (B:Nat): ∀(l:List (List Nat)),(∀x∈l,x.length≤B)->(joinB sep l).length≤l.length*(B+sep.length)
 | [],_=>by simp [joinB]
 | [x],h=>by have:=h x (by simp);simp [joinB];exact I8 this
 |x::y::r,h=>by
  have h1:=h x (by simp)
  have h2:=dt sep B (y::r) λz hz=>h z (List.mem_cons_of_mem _ hz)
  simp only [joinB,List.length_append,List.length_cons,Nat.add_mul] at h2⊢
  exact RE h1 h2
theorem dn {f:It->TS->List Nat×TS}: ∀(l:List It) (s:TS),(tellList f l s).1.length=l.length
 | [],s=>rfl
 |a::l,s=>by simp [tellList,dn l]
theorem dI {f:It->TS->List Nat×TS} {P:List Nat->Prop} {Q:It->Prop} (hf: ∀it s,Q it->P (f it s).1): ∀(l:List It) (s:TS),(∀it∈l,Q it)-> ∀x∈(tellList f l s).1,P x
 | [],s,_,x,h=>by simp [tellList] at h
 |a::l,s,hq,x,h=>by
  simp only [tellList,List.mem_cons] at h
  rcases h with rfl|h
  ·exact hf _ _ (hq a (by simp))
  ·exact dI hf l _ (λit hi=>hq it (List.mem_cons_of_mem _ hi)) x h
theorem aI {bs:List Bd} {b:Nat} {bd:Bd} (h:bs[b]?=some bd):bs.getD b aY=bd:=by simp [List.getD,h]
theorem tB {sh:Sh} (ok: ∀b∈sh.bs,bk sh.bs b) {w:List It->TS->List (List Nat)×TS} {left B:Nat} (hw: ∀aj s,(∀it∈aj,aZ sh.bs it)->(w aj s).1.length≤aj.length/\ ∀x∈(w aj s).1,x.length≤B)
  {kd:Kd} {b st mn:Nat} {ex:Bool} {ac:Nat} (hi:aZ sh.bs (.obj kd b st mn ex ac)) {s:TS}:(sharedO sh w left kd b st mn s).1.length≤14+3*(B+12):=by
 obtain ⟨⟨bd,h1,h2,h3⟩,h4,h5,h6,h7,h8⟩:=hi
 have bok:=ok bd (List.mem_of_getElem? h1)
 have main: ∀bM,bM≠Kd.str->bd.kd=bM->(if left≤s.left b then (ahead s bM b st mn,meet s b)
  else (ahead s bM b st mn++ [40]++joinB [32] ((w (sh.bs.getD b aY).aj (bo (meet s b) b left)).1.map λx=>(if bM= .az then fG++ [61] else [])++x)++ [41],(w (sh.bs.getD b aY).aj (bo (meet s b) b left)).2)).1.length≤14+3*(B+12):=by
  intro bM hk yO
  have ha:(ahead s bM b st mn).length≤6:=by unfold ahead;split<;>simp
  split
  ·dsimp only;exact RN ha
  ·rw [aI h1]
   obtain ⟨g1,g2⟩:=hw bd.aj (bo (meet s b) b left) bok.aj
   have hlen:bd.aj.length≤3:=by
    cases aW:bd.kd with
    |arr=>exact (bok.arr aW).2
    |str=>exact absurd (yO.symm.trans aW) hk
    |az=>rw [bok.az aW];exact RG
   have:=dt [32] (B+10) ((w bd.aj (bo (meet s b) b left)).1.map λx=>(if bM= .az then fG++ [61] else [])++x) (by
    intro x hx
    obtain ⟨y,hy,rfl⟩:=List.mem_map.mp hx
    have:=g2 y hy
    split<;>simp [fG]<;>omega)
   simp only [List.length_append,List.length_map,List.length_cons,List.length_nil] at this⊢
   have:=Nat.mul_le_mul_right (B+10+(0+1)) (Nat.le_trans g1 hlen)
   omega
 cases kd with
 |str=>
  obtain ⟨_,q,_⟩:=bok.str h2
  have ha:(ahead s .str b st mn).length≤6:=by simp [ahead]
  simp only [sharedO,aI h1]
  split<;>simp only [List.length_append,List.length_cons,List.length_nil,ew,q]<;>omega
 |arr=>exact main .arr (by decide) h2
 |az=>exact main .az (by decide) h2
theorem FR {sh:Sh} (ok: ∀b∈sh.bs,bk sh.bs b) {kd:Kd} {b st mn:Nat} {ex:Bool} {ac:Nat} (hi:aZ sh.bs (.obj kd b st mn ex ac)):fy sh kd b ac<10:=by
 obtain ⟨⟨bd,h1,h2,h3⟩,h4,h5,h6,h7,h8⟩:=hi
 have:=(ok bd (List.mem_of_getElem? h1)).ac
 unfold fy
 rw [aI h1]
 split<;>omega
theorem tX (kd:Kd):kd.fM.length≤6:=by cases kd<;>decide
theorem oI {sh:Sh} (ok: ∀b∈sh.bs,bk sh.bs b) {w:List It->TS->List (List Nat)×TS} {left B:Nat} (hw: ∀aj s,(∀it∈aj,aZ sh.bs it)->(w aj s).1.length≤aj.length/\ ∀x∈(w aj s).1,x.length≤B)
  {it:It} (hi:aZ sh.bs it) {s:TS}:(tellW sh w left it s).1.length≤22+3*(B+12):=by
 cases it with
 |num k=>simp [tellW,kx];exact R9
 |obj kd b st mn ex ac=>
  have:=tB ok hw hi (left:=left) (s:=s)
  have:=tX kd
  rw [du]
  simp only [List.length_append,List.length_cons,List.length_nil]
  omega
theorem fh {sh:Sh} (ok: ∀b∈sh.bs,bk sh.bs b): ∀(l:Nat) {it:It} (hi:aZ sh.bs it) {s:TS},(tell sh l it s).1.length≤60*4^l
 |0,it,hi,s=>by
  have:=oI ok (B:=0) (w:=λ_ s=>([],s)) (left:=0) (λaj s _=>by simp) hi (s:=s)
  simp only [tell,Nat.pow_zero];exact Rl this
 |l+1,it,hi,s=>by
  have:=oI ok (B:=60*4^l) (w:=tellList (tell sh l)) (left:=l+1) (λaj s hits=>by
   exact ⟨Nat.le_of_eq (dn aj s),dI (λit s h=>fh ok l h) aj s hits⟩) hi (s:=s)
  have:=Nat.pow_pos (n:=l) (show 0<4 by decide)
  simp only [tell,Nat.pow_succ] at this⊢;omega
section
variable {σ σ':a0} {made:List Nat} {num:Nat->Int} {bs:List Bd}
theorem zp {bd:Bd} {n:Int} {q:Nat} (h:BdR σ made n bd q) (hk:bd.kd= .az):bz (.ref q) 21 σ=some (.int (bd.ac:Nat)):=by
 unfold BdR at h
 rw [hk] at h
 obtain ⟨E,kk,p,kt,vt,it,ks,h1,_⟩:=h
 exact aQ h1 rfl rfl rfl
theorem xY {n:Nat} (M:jM σ made num bs) {kd:Kd} {v:AV} {ex:Bool} {a ac r b st mn:Nat} {bd:Bd} (h1:bs[b]?=some bd) (h2:bd.kd=kd) (h:σ.get r=some (bP kd.code v ex a)) (hv:k0 σ made kd b st mn v) (ha:kd≠ .az->a=ac)
  {Q:AV->a0->Prop} (hQ:Q (.int ((if kd= .az then (bs.getD b aY).ac else ac:Nat):Int)) σ):callI (n+1) 5 [.ref r] σ Q:=by
 refine aC (bs:= [(12, .ref r)]) rfl rfl ?_
 intro R hr hn
 cases kd with
 |az=>
  obtain ⟨q,g1,rfl⟩:=hv
  rw [if_pos rfl,aI h1] at hQ
  refine a9 (aJ h) (a9 (ck h rfl) (a9 (zp (M.bd h1 g1) h2) ?_))
  exact hr _ _ _ hQ
 |str=>
  have:=ha (by decide);subst this
  refine a9 (aJ h) (a9 (rU h) ?_)
  exact hr _ _ _ hQ
 |arr=>
  have:=ha (by decide);subst this
  refine a9 (aJ h) (a9 (rU h) ?_)
  exact hr _ _ _ hQ
theorem GR {n:Nat} (D:aR σ) {k:Nat} (hk:k<10) {Q:AV->a0->Prop} (hQ: ∀σ',Gr no σ σ'->Q (.bytes [48+k]) σ'):callI (n+2) 7 [.int ((k:Nat):Int)] σ Q:=by
 refine aC (bs:= [(17, .int ((k:Nat):Int))]) rfl rfl ?_
 intro R hr hn
 refine (?_:callI _ _ _ _ _)
 exact jY D hk λσ' g=>hr _ _ _ (hQ _ g)
theorem eX {x y:List Nat} (h:x.length+y.length≤aw):bin .add (.bytes x) (.bytes y) σ=some (.bytes (x++y),σ):=if_pos h
theorem QG {n:Nat} (D:aR σ) {Q:AV->a0->Prop} (hQ: ∀σ',Gr no σ σ'->Q (.bytes [60,54,49,62]) σ'):callI (n+2) 7 [.bytes [97]] σ Q:=by
 refine aC (bs:= [(17, .bytes [97])]) rfl rfl ?_
 intro R hr hn
 refine (?_:callI _ _ _ _ _)
 exact wA D (l:= [97]) (by simp) (by simp) λσ' g=>hr _ _ _ (hQ _ g)
structure Fz (σ0:a0) (made:List Nat) (num:Nat->Int) (bs:List Bd) (kd ld:Nat):Prop where
 ar:aR σ0
 mr:jM σ0 made num bs
 ok: ∀b∈bs,bk bs b
 nb:bs.length≤9
 inj: ∀a b,num a=num b->a=b
 k:σ0.n≤kd
 l:σ0.n≤ld
noncomputable def Ext (σ0 σ:a0):Prop:= ∀i o,σ0.get i=some o->σ.get i=some o
theorem Ext.gr {σ0:a0} {kd ld:Nat} (F:Fz σ0 made num bs kd ld) (E:Ext σ0 σ) (g:Gr (KL kd ld) σ σ'):Ext σ0 σ':=λi o e=>g.keep i o (λz=>by
 have:=F.ar i o e
 have:=F.k
 have:=F.l
 rcases z with z|z<;>omega) (E i o e)
theorem Gr.ext (g:Gr no σ σ'): ∀i o,σ.get i=some o->σ'.get i=some o:=λi o e=>g.keep i o (λz=>z) e
structure Tl (σ0:a0) (num:Nat->Int) (bs:List Bd) (kd ld t:Nat) (σ:a0) (s:TS):Prop where
 D:aR σ
 E:Ext σ0 σ
 T:dD σ num bs.length t kd ld s
structure Ob (σ0:a0) (made:List Nat) (bs:List Bd) (k:Kd) (b st mn:Nat) (ex:Bool) (ac r:Nat) (v:AV) (a:Nat) (bd:Bd):Prop where
 hb:bs[b]?=some bd
 hk:bd.kd=k
 rZ:st≤1
 CV:mn≤3
 h:σ0.get r=some (bP k.code v ex a)
 hv:k0 σ0 made k b st mn v
 ha:k≠ .az->a=ac
noncomputable def m9 (k:Kd) (x:List Nat):List Nat:=(if k= .az then fG++ [61] else [])++x
section
variable {σ0:a0} {k:Kd} {b st mn:Nat} {ex:Bool} {ac r:Nat} {v:AV} {a:Nat} {bd:Bd} {kd ld t l tk n:Nat} {s:TS} {stk:List It} {ρ:Loc} {w:List It->TS->List (List Nat)×TS} {R:Fl->Loc->a0->Prop}
theorem Tl.ext (X:Tl σ0 num bs kd ld t σ s) (g:Gr no σ σ'):Tl σ0 num bs kd ld t σ' s:=⟨g.ar,λi o e=>g.ext i o (X.E i o e),X.T.keep g.ext⟩
theorem Ob.of (hi:aZ bs (.obj k b st mn ex ac)) (hr:dJ σ0 made (.obj k b st mn ex ac) r): ∃v a bd,Ob σ0 made bs k b st mn ex ac r v a bd:=
 let ⟨⟨bd,h1,h2,_⟩,h4,h5,_⟩:=hi
 let ⟨v,a,h,hv,ha⟩:=hr
 ⟨v,a,bd,h1,h2,h4,h5,h,hv,ha⟩
theorem Ob.bl (B:Ob σ0 made bs k b st mn ex ac r v a bd):b<bs.length:=(List.getElem?_eq_some_iff.mp B.hb).1
theorem nq {sh:Sh} {l:Nat}: ∀{k:Kd} {b st mn:Nat} {s:TS},k≠ .str->sharedO sh w l k b st mn s=if l≤s.left b then (ahead s k b st mn,meet s b)
  else (ahead s k b st mn++ [40]++joinB [32] ((w (sh.bs.getD b aY).aj (bo (meet s b) b l)).1.map (m9 k))++ [41],(w (sh.bs.getD b aY).aj (bo (meet s b) b l)).2)
 | .arr,_,_,_,_,_=>rfl
 | .az,_,_,_,_,_=>rfl
 | .str,_,_,_,_,h=>absurd rfl h
noncomputable def wz (σ0:a0) (num:Nat->Int) (bs:List Bd) (kd ld t n l:Nat) (k:Kd) (r b:Nat) (w:List It->TS->List (List Nat)×TS):Prop:= ∀(σ:a0) (s:TS),0<l->Tl σ0 num bs kd ld t σ s->k≠ .str-> ∀Q:AV->a0->Prop,
 (∀q σ',σ'.get q=some (.list (((w (bs.getD b aY).aj s).1.map (m9 k)).map .bytes))->Tl σ0 num bs kd ld t σ' (w (bs.getD b aY).aj s).2->Gr (KL kd ld) σ σ'->Q (.ref q) σ')->callI n 28 [.ref t, .ref r, .int ((l:Int)-1)] σ Q
noncomputable def mx (bs:List Bd) (k:Kd) (b:Nat) (w:List It->TS->List (List Nat)×TS):Prop:= ∀s,(joinB [32] ((w (bs.getD b aY).aj s).1.map (m9 k))).length≤900000
structure SE (ρ:Loc) (r t l tk:Nat):Prop where
 r1:ρ 12=some (.ref r)
 r2:ρ 103=some (.ref t)
 r3:ρ 41=some (.int (l:Nat))
 r4:ρ 109=some (.ref tk)
theorem pb {k:Kd}:(ahead s k b st mn).length≤6:=by unfold ahead;split<;>exact Nat.le_of_ble_eq_true rfl
theorem xr:(meet s b).left b=s.left b:=by unfold meet;split<;>rfl
theorem tp (F:Fz σ0 made num bs kd ld) (B:Ob σ0 made bs k b st mn ex ac r v a bd) (X:Tl σ0 num bs kd ld t σ (meet s b)) (dV:k≠ .str) (hk:σ.get tk=some (ek num b)) (hw:wz σ0 num bs kd ld t (n+4) l k r b w) (hlen:mx bs k b w) (V:SE ρ r t l tk) (r6:ρ 119=some (.bytes (ahead s k b st mn)))
  (hr: ∀ρ σ',Tl σ0 num bs kd ld t σ' (sharedO ⟨bs,stk⟩ w l k b st mn s).2->Gr (KL kd ld) σ σ'->R (.ret (.bytes (sharedO ⟨bs,stk⟩ w l k b st mn s).1)) ρ σ'):
  wSs (callI (n+4)) (.iff (.cmp .le (.var 41) (.bc (.attr (.var 103) 113) 55 [(.var 109),(.lit (.int 0))])) [.ret (.var 119)] []::bB.drop 7) ρ σ R:=by
 have T:=X.T
 have yP: ∃es,σ.get ld=some (.dict es):=let ⟨es,lr,q,_⟩:=T.l;⟨es,q⟩
 obtain ⟨es,Pq⟩:=yP
 rw [nq dV] at hr
 refine aa V.r3 (aa V.r2 (a9 T.I7 (aa V.r4 (hJ ⟨es,Pq⟩ Pq (a9 (T.left F.inj hk) ?_)))))
 by_cases hl:l≤s.left b
 ·rw [if_pos hl] at hr
  refine bb (decide_eq_true (show ((l:Int)≤(((meet s b).left b:Nat):Int)) by rw [xr];exact So hl)) (aa r6 ?_)
  exact hr _ _ X (Gr.refl X.D)
 ·rw [if_neg hl] at hr
  have CW:bs.length≤aw:=Nat.le_trans F.nb (Nat.le_of_ble_eq_true rfl)
  obtain ⟨σ2,e2,T2,G2⟩:=T.qm F.inj X.D CW hk B.bl (l:=l)
  obtain ⟨dp,ht⟩:=T2.t
  have ha:=pb (s:=s) (b:=b) (st:=st) (mn:=mn) (k:=k)
  refine aG (decide_eq_false (show¬((l:Int)≤(((meet s b).left b:Nat):Int)) by rw [xr];exact Qu hl)) (aa V.r3 (aa V.r2 (a9 T.I7 (aa V.r4 (a9 e2 (aa r6 (bw (eX (x:=ahead s k b st mn) (by simp [aw];exact Qm ha)) (aa V.r2 (aa V.r1 (aa V.r3 (cV (f:=28) ht rfl rfl (?_:callI _ _ _ _ _))))))))))))
  refine hw σ2 _ (by exact Ax hl) ⟨G2.ar,X.E.gr F G2,T2⟩ dV _ λq σ3 hq X3 G3=> ?_
  have vZ:=hlen (bo (meet s b) b l)
  refine And.intro rfl (a9 (yf hq (Nat.le_trans vZ (Nat.le_of_ble_eq_true rfl))) ?_)
  refine bw (eX (by simp only [List.length_append,List.length_cons,List.length_nil];unfold aw;exact RI ha vZ)) ?_
  refine bw (eX (by simp only [List.length_append,List.length_cons,List.length_nil];unfold aw;exact RU ha vZ)) ?_
  exact hr _ _ X3 (G2.then G3)
theorem n0 (F:Fz σ0 made num bs kd ld) (B:Ob σ0 made bs k b st mn ex ac r v a bd) (X:Tl σ0 num bs kd ld t σ (meet s b)) (dV:k≠ .str) (hk:σ.get tk=some (ek num b)) (hw:wz σ0 num bs kd ld t (n+4) l k r b w) (hlen:mx bs k b w) (V:SE ρ r t l tk) (r6:ρ 119=some (.bytes (ahead s k b st mn)))
  (hr: ∀ρ σ',Tl σ0 num bs kd ld t σ' (sharedO ⟨bs,stk⟩ w l k b st mn s).2->Gr (KL kd ld) σ σ'->R (.ret (.bytes (sharedO ⟨bs,stk⟩ w l k b st mn s).1)) ρ σ'):wSs (callI (n+4)) (bB.drop 5) ρ σ R:=by
 have rest:=tp F B X dV hk hw hlen V r6 hr
 have hh:=X.E _ _ B.h
 refine aa V.r1 (a9 (aJ hh) (aG (decide_eq_false (iY k dV)) (aa V.r1 (a9 (aJ hh) ?_))))
 cases k with
 |str=>exact absurd rfl dV
 |az=>exact rest
 |arr=>
  refine aa V.r1 (?_:callI _ _ _ _ _)
  exact jf hh (by decide) rest
end
end
section
variable {σ σ':a0} {made:List Nat} {num:Nat->Int} {bs:List Bd}
theorem EC {r:Nat} {l:List Nat} (h:σ.get r=some (.fL l)) (hl:l.length≤aw):fu 5 [.ref r] σ=some (.bytes l,σ):=(aB h).trans (if_pos hl)
variable {σ0:a0} {k:Kd} {b st mn:Nat} {ex:Bool} {ac r:Nat} {v:AV} {a:Nat} {bd:Bd} {kd ld t l tk n:Nat} {s:TS} {stk:List It} {ρ:Loc} {w:List It->TS->List (List Nat)×TS} {R:Fl->Loc->a0->Prop}
theorem ua {o:List Nat} {sp q:Nat} (X:Tl σ0 num bs kd ld t σ s) (h:σ0.get r=some (bP k.code (.ref sp) ex a)) (q2:σ0.get sp=some (hZ q st mn)) (rZ:st≤1) (CV:mn≤3) (ho:o.length≤100) (r1:ρ 12=some (.ref r)) (r5:ρ 119=some (.bytes o))
  {Q:AV->a0->Prop} (hQ: ∀σ',Gr no σ σ'->Q (.bytes (o++ [64]++ [48+st]++ [43]++ [48+mn])) σ'):
  wE (callI (n+1)) (.bin .add (.bin .add (.bin .add (.bin .add (.var 119) (.lit (.bytes [64]))) (.call (.glob 27) [(.attr (.attr (.var 12) 17) 53)])) (.lit (.bytes [43]))) (.call (.glob 27) [(.attr (.attr (.var 12) 17) 47)])) ρ σ Q:=by
 refine aa r5 (bw (eX (x:=o) (y:= [64]) (by unfold aw;simp only [List.length_cons,List.length_nil];exact QL ho)) (aa r1 (a9 (ck (X.E _ _ h) rfl) (a9 (DE (X.E _ _ q2)) (?_:callI _ _ _ _ _)))))
 refine jY X.D (k:=st) (by exact QQ rZ) λσ2 g2=> ?_
 have X2:=X.ext g2
 refine bw (eX (by simp only [List.length_append,List.length_cons,List.length_nil];unfold aw;exact R7 ho)) ?_
 refine bw (eX (by simp only [List.length_append,List.length_cons,List.length_nil];unfold aw;exact Qf ho)) ?_
 refine aa r1 (a9 (ck (X2.E _ _ h) rfl) (a9 (Ej (X2.E _ _ q2)) (?_:callI _ _ _ _ _)))
 refine jY X2.D (k:=mn) (by exact Sn CV) λσ3 g3=> ?_
 exact bw (eX (by simp only [List.length_append,List.length_cons,List.length_nil];unfold aw;exact QA ho)) (hQ _ (g2.then g3))
theorem qX:b∈(meet s b).known:=by
 unfold meet
 split
 ·rename_i z;exact List.contains_iff_mem.mp z
 ·exact List.mem_append_right _ (List.mem_singleton.mpr rfl)
theorem AK (h:s.known.contains b=true):meet s b=s:=if_pos h
theorem uL (F:Fz σ0 made num bs kd ld) (B:Ob σ0 made bs .str b st mn ex ac r v a bd) (X:Tl σ0 num bs kd ld t σ (meet s b)) (r1:ρ 12=some (.ref r)) (r5:ρ 118=some (.bool (!s.known.contains b))) (r6:ρ 119=some (.bytes [35,48+(meet s b).known.idxOf b]))
  (hr: ∀ρ σ',Tl σ0 num bs kd ld t σ' (sharedO ⟨bs,stk⟩ w l .str b st mn s).2->Gr (KL kd ld) σ σ'->R (.ret (.bytes (sharedO ⟨bs,stk⟩ w l .str b st mn s).1)) ρ σ'):wSs (callI (n+4)) (bB.drop 4) ρ σ R:=by
 obtain ⟨q,sp,q1,rfl,q2⟩:=B.hv
 refine aa r1 (a9 (aJ (X.E _ _ B.h)) ?_)
 refine ua X B.h q2 B.rZ B.CV (Nat.le_of_ble_eq_true rfl) r1 r6 λσ3 g=> ?_
 have X3:=X.ext g
 have Pr:=X3.E _ _ B.h
 refine aa r1 (a9 (aJ Pr) ?_)
 cases hc:s.known.contains b with
 |true=>
  rw [hc] at r5
  unfold sharedO at hr
  rw [hc] at hr
  refine aa r5 (aG (rfl:(!true)=false) ?_)
  exact hr _ _ X3 g.any
 |false=>
  rw [hc] at r5
  have aU:=F.mr.bd B.hb q1
  unfold BdR at aU
  rw [B.hk] at aU
  obtain ⟨ba,y1,y2⟩:=aU
  obtain ⟨_,o1,o2⟩:=(F.ok bd (List.mem_of_getElem? B.hb)).str B.hk
  unfold sharedO at hr
  rw [hc,aI B.hb] at hr
  refine aa r5 (bb (rfl:(!false)=true) ?_)
  refine aa r1 (a9 (ck Pr rfl) (a9 (hY (X3.E _ _ q2)) (a9 (aQ (x:=8) (X3.E _ _ y1) rfl rfl rfl) (a9 (EC (X3.E _ _ y2) (by rw [o1];decide)) (?_:callI _ _ _ _ _)))))
  refine wA X3.D (l:=bd.ocs) (λx hx=>by rcases o2 x hx with rfl|rfl<;>decide) (by exact Rx o1) λσ4 g4=> ?_
  refine bw (eX (by simp only [List.length_append,List.length_cons,List.length_nil,ew,o1];decide)) ?_
  refine bw (eX (by simp only [List.length_append,List.length_cons,List.length_nil,ew,o1];decide)) ?_
  exact hr _ _ (X3.ext g4) (g.then g4).any
theorem lR (F:Fz σ0 made num bs kd ld) (B:Ob σ0 made bs k b st mn ex ac r v a bd) (X:Tl σ0 num bs kd ld t σ (meet s b)) (hk:σ.get tk=some (ek num b)) (hw:wz σ0 num bs kd ld t (n+4) l k r b w) (hlen:mx bs k b w) (V:SE ρ r t l tk) (r5:ρ 118=some (.bool (!s.known.contains b)))
  (hr: ∀ρ σ',Tl σ0 num bs kd ld t σ' (sharedO ⟨bs,stk⟩ w l k b st mn s).2->Gr (KL kd ld) σ σ'->R (.ret (.bytes (sharedO ⟨bs,stk⟩ w l k b st mn s).1)) ρ σ'):wSs (callI (n+4)) (bB.drop 3) ρ σ R:=by
 have UN:(meet s b).known.idxOf b<10:=by
  have:=List.idxOf_lt_length_iff.mpr (qX (s:=s) (b:=b))
  have:=X.T.small
  have:=F.nb
  omega
 refine aa V.r2 (a9 X.T.vD (aa V.r4 (a9 (X.T.numAt F.inj hk qX) (?_:callI _ _ _ _ _))))
 refine jY X.D UN λσ1 g1=> ?_
 have X1:=X.ext g1
 have CX:=X1.E _ _ B.h
 have CY: ∀ρ σ',Tl σ0 num bs kd ld t σ' (sharedO ⟨bs,stk⟩ w l k b st mn s).2->Gr (KL kd ld) σ1 σ'->R (.ret (.bytes (sharedO ⟨bs,stk⟩ w l k b st mn s).1)) ρ σ':=λρ σ' Y g=>hr ρ σ' Y (g1.any.then g)
 cases k with
 |str=>exact uL F B X1 V.r1 r5 rfl CY
 |az=>
  refine aa V.r1 (a9 (aJ CX) (aa V.r1 (?_:callI _ _ _ _ _)))
  exact jf CX (by decide) (n0 F B X1 (by decide) (g1.ext _ _ hk) hw hlen ⟨V.r1,V.r2,V.r3,V.r4⟩ rfl CY)
 |arr=>
  obtain ⟨q,sp,q1,rfl,q2⟩:=id B.hv
  refine aa V.r1 (a9 (aJ CX) (aa V.r1 (?_:callI _ _ _ _ _)))
  refine jf CX (by decide) ?_
  refine ua (ρ:=ρ.put 119 (.bytes [35,48+(meet s b).known.idxOf b])) X1 B.h q2 B.rZ B.CV (o:= [35,48+(meet s b).known.idxOf b]) (Nat.le_of_ble_eq_true rfl) V.r1 rfl λσ3 g=> ?_
  exact n0 F B (X1.ext g) (by decide) (g.ext _ _ (g1.ext _ _ hk)) hw hlen ⟨V.r1,V.r2,V.r3,V.r4⟩ rfl λρ σ' Y g'=>CY ρ σ' Y (g.any.then g')
theorem ym (F:Fz σ0 made num bs kd ld) (B:Ob σ0 made bs k b st mn ex ac r v a bd) (X:Tl σ0 num bs kd ld t σ s) (hw:wz σ0 num bs kd ld t (n+4) l k r b w) (hlen:mx bs k b w)
  {Q:AV->a0->Prop} (hQ: ∀σ',Tl σ0 num bs kd ld t σ' (sharedO ⟨bs,stk⟩ w l k b st mn s).2->Gr (KL kd ld) σ σ'->Q (.bytes (sharedO ⟨bs,stk⟩ w l k b st mn s).1) σ'):callI (n+5) 27 [.ref t, .ref r, .int (l:Nat)] σ Q:=by
 have CW:bs.length≤aw:=Nat.le_trans F.nb (Nat.le_of_ble_eq_true rfl)
 refine aC (bs:= [(103, .ref t),(12, .ref r),(41, .int (l:Nat))]) rfl rfl ?_
 intro R hr hn
 refine (?_:callI _ _ _ _ _)
 refine vK X.D (F.mr.keep X.E) B.bl (X.E _ _ B.h) (B.hv.keep X.E) λtk σ1 hk g1 _=> ?_
 have X1:=X.ext g1
 refine a9 X1.T.vD (i6 (X1.T.l9 F.inj hk) ?_)
 rcases Bool.eq_false_or_eq_true (s.known.contains b) with hc|hc
 ·refine aG (by rw [hc];rfl:(!s.known.contains b)=false) (?_:oB _ _)
  exact lR (ρ:=((eb [(103, .ref t),(12, .ref r),(41, .int (l:Nat))]).put 109 (.ref tk)).put 118 (.bool (!s.known.contains b))) F B (by rw [AK hc];exact X1) hk hw hlen ⟨rfl,rfl,rfl,rfl⟩ rfl λρ σ' Y g=>hr _ _ _ (hQ _ Y (g1.any.then g))
 ·have hb:b∉s.known:=λz=>by rw [List.contains_iff_mem.mpr z] at hc;cases hc
  obtain ⟨σ2,e2,T2,G2⟩:=X1.T.meet F.inj X1.D CW hk hb B.bl
  have ij:σ2.get tk=some (ek num b):=by
   obtain ⟨es,q1,_⟩:=X1.T.k
   obtain ⟨ct,lr,q2,_⟩:=X1.T.l
   refine G2.keep _ _ (λz=> ?_) hk
   rcases z with z|z
   ·rw [z,q1] at hk;cases hk
   ·rw [z,q2] at hk;cases hk
  refine bb (by rw [hc];rfl:(!s.known.contains b)=true) (a9 X1.T.vD (a9 (X1.T.Rp CW) (a9 X1.T.vD (a9 e2 (?_:oB _ _)))))
  exact lR (ρ:=((eb [(103, .ref t),(12, .ref r),(41, .int (l:Nat))]).put 109 (.ref tk)).put 118 (.bool (!s.known.contains b))) F B ⟨G2.ar,X1.E.gr F G2,T2⟩ ij hw hlen ⟨rfl,rfl,rfl,rfl⟩ rfl λρ σ' Y g=>hr _ _ _ (hQ _ Y (g1.any.then (G2.then g)))
end
theorem gU {f:It->TS->List Nat×TS}: ∀(l m:List It) (s:TS),tellList f (l++m) s=((tellList f l s).1++(tellList f m (tellList f l s).2).1,(tellList f m (tellList f l s).2).2)
 | [],m,s=>rfl
 |a::l,m,s=>by simp [tellList,gU l]
theorem fK {f:It->TS->List Nat×TS} {l:List It} {k:Nat} {it:It} (h:l[k]?=some it) (s:TS):tellList f (l.take (k+1)) s=((tellList f (l.take k) s).1++ [(f it (tellList f (l.take k) s).2).1],(f it (tellList f (l.take k) s).2).2):=by
 rw [List.take_add_one,h,Option.toList_some,gU]
 rfl
theorem ki: ∀(l:List AV),l.all j7=true->flatsEq l l=some true
 | [],_=>rfl
 |a::l,h=>by
  rw [List.all_cons,Bool.and_eq_true] at h
  have ha:j4 a a=some true:=by
   cases a with
   |int i=>exact congrArg some (decide_eq_true rfl)
   |str i=>exact congrArg some (decide_eq_true rfl)
   |bytes i=>exact congrArg some (decide_eq_true rfl)
   |_=>cases h.1
  rw [flatsEq,ha]
  exact ki l h.2
section
variable {σ σ':a0} {made:List Nat} {num:Nat->Int} {bs:List Bd}
theorem zW {n:Nat} (D:aR σ) {q E k p:Nat} {nn:Int} {ac:Nat} {ks:List AV} (h1:σ.get q=some (.inst 71 [(4, .int nn),(107, .int 1),(106, .bool false),(89, .int 0),(21, .int (ac:Nat)),(75, .ref E)]))
  (h2:σ.get E=some (.dict [(.ref k, .ref p)])) (h3:σ.get k=some (.tup ks)) (h4:ks.all j7=true) {Q:AV->a0->Prop} (hQ: ∀d σ',σ'.get d=some (.list [.ref p])->Gr no σ σ'->Q (.ref d) σ'):callI (n+1) 23 [.ref q] σ Q:=by
 refine aC (bs:= [(103, .ref q)]) rfl rfl ?_
 have ha:bz (.ref q) 75 σ=some (.ref E):=aQ h1 rfl rfl rfl
 have hm:fk .of [.ref E] σ=some (.dct [.ref k]):=aB h2
 have Bg:bT (.ref E) (.ref k) σ=some (.ref p):=by
  have hk:cC σ (.ref k) (.ref k)=some true:=(aB h3).trans ((aB h3).trans (ki ks h4))
  have e:cJ σ (.ref k) [(.ref k, .ref p)]=some (some (.ref p)):=jn (by show k7 (σ.get k)=true;rw [h3];exact h4) (by rw [dget,hk])
  refine (aB h2).trans ?_
  dsimp only
  rw [e]
 intro R hr hn
 refine a9 ha (a9 hm (?_:bE _ _ _ _ _ _ _ _ _ _))
 refine bC [[.ref k]] (λi acc ρ s=>s=σ/\acc= [AV.ref p].take i/\ρ 103=some (.ref q)) ?_ ?_ ?_ turns 0 [] _ σ (Nat.zero_le _) (by rw [aP];exact Nat.le_of_ble_eq_true rfl) ⟨rfl,rfl,rfl⟩
 ·rintro i acc ρ s _;cases i<;>rfl
 ·rintro i acc ρ s vs ⟨rfl,rfl,hr⟩ hx K hK
  cases i with
  |succ i=>cases hx
  |zero=>
   cases hx
   refine (?_:wE _ _ _ _ _)
   refine aa hr (a9 ha (a9 Bg ?_))
   exact hK _ _ _ ⟨rfl,rfl,hr⟩
 ·rintro acc ρ s ⟨rfl,rfl,_⟩
  exact hr _ _ _ (hQ _ _ af (Gr.new D _))
theorem zi {n t r l:Nat} (D:aR σ) (h:σ.get r=some (bP 77 (.bytes [97]) false 3)) {Q:AV->a0->Prop} (hQ: ∀σ',Gr no σ σ'->Q (.bytes fG) σ'):callI (n+3) 26 [.ref t, .ref r, .int (l:Int)] σ Q:=by
 refine aC (bs:= [(103, .ref t),(12, .ref r),(41, .int (l:Nat))]) rfl rfl ?_
 intro R hr hn
 refine a9 (mh h) (a9 (aJ h) (a9 (aJ h) (?_:callI _ _ _ _ _)))
 refine k8 D (l:= [110,97,109,101]) (by decide) (by decide) (by decide) λσ1 g1=> ?_
 refine a9 (ck (g1.ext _ _ h) rfl) (?_:callI _ _ _ _ _)
 exact QG g1.ar λσ2 g2=>hr _ _ _ (hQ _ (g1.then g2))
theorem AF {n t r l k:Nat} (D:aR σ) (hk:k<10) (h:σ.get r=some (bP 49 (.int (k:Nat)) false 3)) {Q:AV->a0->Prop} (hQ: ∀σ',Gr no σ σ'->Q (.bytes ([108]++kx++ [48+k])) σ'):callI (n+3) 26 [.ref t, .ref r, .int (l:Int)] σ Q:=by
 refine aC (bs:= [(103, .ref t),(12, .ref r),(41, .int (l:Nat))]) rfl rfl ?_
 intro R hr hn
 refine a9 (mh h) (a9 (aJ h) (a9 (aJ h) (?_:callI _ _ _ _ _)))
 refine k8 D (l:=kx) (by decide) (by decide) (by decide) λσ1 g1=> ?_
 refine a9 (ck (g1.ext _ _ h) rfl) (?_:callI _ _ _ _ _)
 exact GR g1.ar hk λσ2 g2=>hr _ _ _ (hQ _ (g1.then g2))
noncomputable def mF (σ0:a0) (made:List Nat) (num:Nat->Int) (bs:List Bd) (stk:List It) (kd ld t l m:Nat):Prop:= ∀(σ:a0) (s:TS) (it:It) (r:Nat),Tl σ0 num bs kd ld t σ s->aZ bs it->dJ σ0 made it r-> ∀Q:AV->a0->Prop,
 (∀σ',Tl σ0 num bs kd ld t σ' (tell ⟨bs,stk⟩ l it s).2->Gr (KL kd ld) σ σ'->Q (.bytes (tell ⟨bs,stk⟩ l it s).1) σ')->callI m 26 [.ref t, .ref r, .int (l:Nat)] σ Q
variable {σ0:a0} {k:Kd} {b st mn:Nat} {ex:Bool} {ac r:Nat} {v:AV} {a:Nat} {bd:Bd} {kd ld t l tk n m:Nat} {s:TS} {stk:List It} {ρ:Loc} {w:List It->TS->List (List Nat)×TS} {R:Fl->Loc->a0->Prop}
theorem mE (bok:bk bs bd):bd.aj.length≤3:=by
 cases aW:bd.kd with
 |arr=>exact (bok.arr aW).2
 |str=>rw [(bok.str aW).1];exact Nat.zero_le _
 |az=>rw [bok.az aW];exact Nat.le_of_ble_eq_true rfl
theorem uJ (F:Fz σ0 made num bs kd ld) (B:Ob σ0 made bs .arr b st mn ex ac r v a bd) (X:Tl σ0 num bs kd ld t σ s) (IH:mF σ0 made num bs stk kd ld t l (n+3))
  {Q:AV->a0->Prop} (hQ: ∀q σ',σ'.get q=some (.list ((tellList (tell ⟨bs,stk⟩ l) bd.aj s).1.map .bytes))->Tl σ0 num bs kd ld t σ' (tellList (tell ⟨bs,stk⟩ l) bd.aj s).2->Gr (KL kd ld) σ σ'->Q (.ref q) σ'):callI (n+4) 28 [.ref t, .ref r, .int (l:Int)] σ Q:=by
 have bok:=F.ok bd (List.mem_of_getElem? B.hb)
 have il:=mE bok
 refine aC (bs:= [(103, .ref t),(12, .ref r),(41, .int (l:Nat))]) rfl rfl ?_
 intro R hr hn
 obtain ⟨q,sp,q1,rfl,q2⟩:=B.hv
 have aU:=F.mr.bd B.hb q1
 unfold BdR at aU
 rw [B.hk] at aU
 obtain ⟨L,rs,y1,y2,y3⟩:=aU
 have hh:=X.E _ _ B.h
 have hlen:((rs.map AV.ref).map ([·])).length=bd.aj.length:=by rw [List.length_map,List.length_map,y3.len]
 refine a9 (aJ hh) (a9 (ck hh rfl) (a9 (hY (X.E _ _ q2)) (a9 (aQ (x:=39) (X.E _ _ y1) rfl rfl rfl) (a9 (cI (X.E _ _ y2)) (?_:bE _ _ _ _ _ _ _ _ _ _)))))
 refine bC ((rs.map AV.ref).map ([·])) (λi acc ρ s'=>(ρ 41=some (.int (l:Nat))/\ρ 103=some (.ref t))/\acc=(tellList (tell ⟨bs,stk⟩ l) (bd.aj.take i) s).1.map .bytes/\Tl σ0 num bs kd ld t s' (tellList (tell ⟨bs,stk⟩ l) (bd.aj.take i) s).2/\Gr (KL kd ld) σ s') ?_ ?_ ?_ turns 0 [] _ σ (Nat.zero_le _) (by rw [hlen,aP];exact ze il) ⟨⟨rfl,rfl⟩,rfl,X,Gr.refl X.D⟩
 ·rintro i acc ρ s' ⟨_,_,Y,_⟩
  exact cq (Y.E _ _ y2)
 ·rintro i acc ρ s' vs ⟨⟨e1,e2⟩,rfl,Y,g1⟩ hx K hK
  refine get_m hx λrr hr=> ?_
  obtain ⟨it,hit,gK⟩:=y3.get hr
  obtain ⟨dp,ht⟩:=Y.T.t
  refine (?_:wE _ _ _ _ _)
  refine aa e2 (aa e1 (cV (f:=26) ht rfl rfl (?_:callI _ _ _ _ _)))
  exact IH s' _ it rr Y (bok.aj it (List.mem_of_getElem? hit)) gK _ λσ3 Z G3=>hK _ _ _ (by rw [fK hit,List.map_append];exact ⟨⟨e1,e2⟩,rfl,Z,g1.then G3⟩)
 ·rintro acc ρ s' ⟨_,rfl,Y,g3⟩
  rw [hlen,List.take_length] at Y⊢
  exact hr _ _ _ (hQ _ _ af (Y.ext (Gr.new Y.D _)) (g3.then (Gr.new Y.D _).any))
theorem Tl.bo {d:Nat} {xs:List AV} {o:AO} (X:Tl σ0 num bs kd ld t σ s) (h:σ.get d=some (.list xs)) (h0:σ0.n≤d) (D0:aR σ0):Tl σ0 num bs kd ld t (σ.set d o) s:=by
 have g:=Gr.set X.D h o
 have k: ∀i o',(∀ys,o'≠ .list ys)->σ.get i=some o'->(σ.set d o).get i=some o':=λi o' hn e=>g.keep _ _ (λz=>hn xs (Option.some.inj (e.symm.trans (z▸h)))) e
 have ke: ∀{p e},cZ σ num p e->cZ (σ.set d o) num p e:=λ⟨t,e,h⟩=>⟨t,e,k _ _ (λ_ z=>by cases z) h⟩
 refine ⟨g.ar,λi o e=>g.keep _ _ (λz=> ?_) (X.E i o e),⟨let ⟨dp,h⟩:=X.T.t;⟨dp,k _ _ (λ_ z=>by cases z) h⟩,let ⟨es,h,A⟩:=X.T.k;⟨es,k _ _ (λ_ z=>by cases z) h,A.imp λ_ _=>ke⟩,X.T.kn,X.T.ne,let ⟨es,lr,h,A,z⟩:=X.T.l;⟨es,lr,k _ _ (λ_ z=>by cases z) h,A.imp λ_ _=>ke,z⟩⟩⟩
 have:=D0 i o e
 exact RZ h0 z this
theorem v9 (F:Fz σ0 made num bs kd ld) (B:Ob σ0 made bs .az b st mn ex ac r v a bd) (X:Tl σ0 num bs kd ld t σ s) (hl:l≤6) (IH:mF σ0 made num bs stk kd ld t l (n+3)) (h0:σ0.n≤σ.n)
  {Q:AV->a0->Prop} (hQ: ∀q σ',σ'.get q=some (.list (((tellList (tell ⟨bs,stk⟩ l) bd.aj s).1.map (m9 .az)).map .bytes))->Tl σ0 num bs kd ld t σ' (tellList (tell ⟨bs,stk⟩ l) bd.aj s).2->Gr (KL kd ld) σ σ'->Q (.ref q) σ'):callI (n+4) 28 [.ref t, .ref r, .int (l:Int)] σ Q:=by
 have bok:=F.ok bd (List.mem_of_getElem? B.hb)
 refine aC (bs:= [(103, .ref t),(12, .ref r),(41, .int (l:Nat))]) rfl rfl ?_
 intro R hr hn
 obtain ⟨q,q1,rfl⟩:=B.hv
 have aU:=F.mr.bd B.hb q1
 unfold BdR at aU
 rw [B.hk] at aU
 obtain ⟨E',kk,p,kt,vt,it,ks,y1,y2,y3,y4,y5,y6,y7,y8⟩:=aU
 have itok:aZ bs it:=bok.aj it (by rw [y7];exact List.mem_cons_self)
 have gn:=Gr.new X.D (.list [])
 have Xn:=X.ext gn
 have u1:=Xn.E _ _ y1
 refine a9 (aJ (X.E _ _ B.h)) (a9 (ck (Xn.E _ _ B.h) rfl) (cV (f:=23) u1 rfl rfl (?_:callI _ _ _ _ _)))
 refine zW Xn.D u1 (Xn.E _ _ y2) (Xn.E _ _ y3) y4 λd σ1 hd g1=> ?_
 have X1:=Xn.ext g1
 have w0:σ1.get σ.n=some (.list []):=g1.ext _ _ af
 have nkl: ∀{x},KL kd ld x->x≠σ.n:=λz=>by
  rcases z with rfl|rfl
  ·obtain ⟨es,e,_⟩:=X.T.k
   exact Nat.ne_of_lt (X.D _ _ e)
  ·obtain ⟨es,_,e,_⟩:=X.T.l
   exact Nat.ne_of_lt (X.D _ _ e)
 have sb:d≠σ.n:=λz=>by rw [z,w0] at hd;cases hd
 have J0: ¬KL kd ld d:=λz=>by
  rcases z with rfl|rfl
  ·obtain ⟨es,e,_⟩:=X1.T.k;rw [hd] at e;cases e
  ·obtain ⟨es,_,e,_⟩:=X1.T.l;rw [hd] at e;cases e
 refine a9 (cI hd) (?_:dm _ _ _ _ _ _ _ _)
 refine cw (C:=callI (n+3)) [[.ref p]] (λi ρ s'=>ρ 7=some (.ref σ.n)/\s'.get d=some (.list [.ref p])/\(match i with|0=>s'=σ1/\ρ 41=some (.int (l:Nat))/\ρ 103=some (.ref t)|_=>s'.get σ.n=some (.list [.bytes (fG++ [61]++(tell ⟨bs,stk⟩ l it s).1)])/\Tl σ0 num bs kd ld t s' (tell ⟨bs,stk⟩ l it s).2/\Gr (KL kd ld) σ s')) ?_ ?_ ?_ turns 0 _ _ (Nat.zero_le _) (by rw [aP];exact Nat.le_of_ble_eq_true rfl) ⟨rfl,hd,rfl,rfl,rfl⟩
 ·rintro i ρ s' ⟨_,sd,_⟩
  exact cq sd
 ·rintro i ρ s' vs ⟨r7,sd,h⟩ hx K hK
  cases i with
  |succ i=>cases hx
  |zero=>
   cases hx
   obtain ⟨rfl,jP,r103⟩:=h
   obtain ⟨dp,ht⟩:=X1.T.t
   refine a9 (cQ (X1.E _ _ y5)) ?_
   refine (?_:wSs _ _ _ _ _)
   refine aa r7 (aa r103 (aa jP (cV (f:=26) ht rfl rfl (?_:callI _ _ _ _ _))))
   refine zi (n:=n) X1.D (X1.E _ _ y6) λσ2 g2=> ?_
   have X2:=X1.ext g2
   obtain ⟨W8,J1⟩:=X2.T.t
   refine aa r103 (aa jP (cV (f:=26) J1 rfl rfl (?_:callI _ _ _ _ _)))
   refine IH σ2 s it vt X2 itok y8 _ λσ3 X3 g3=> ?_
   have hlen:=fh (sh:=⟨bs,stk⟩) F.ok l itok (s:=s)
   have se:4^l≤4^6:=Nat.pow_le_pow_right (by decide) hl
   refine bw (eX (by simp only [List.length_append,List.length_cons,List.length_nil,fG];unfold aw;exact Qp hlen se)) ?_
   have jQ:σ3.get σ.n=some (.list []):=g3.keep _ _ (λz=>nkl z rfl) (g2.ext _ _ w0)
   refine bL ⟨_,w0⟩ jQ (a9 (cX jQ (Nat.le_of_ble_eq_true rfl)) ?_)
   exact hK _ _ ⟨r7,(av sb).trans (g3.keep _ _ J0 (g2.ext _ _ sd)),aF,X3.bo jQ h0 F.ar,Gr.bQ X.D ((gn.then (g1.then g2)).any.then g3) (Nat.le_refl _) jQ⟩
 ·rintro ρ2 σ2 ⟨r7,_,a1,a2,a3⟩
  have r7:ρ2 7=some (.ref σ.n):=r7
  refine aa r7 ?_
  rw [y7] at hQ
  exact hr _ _ _ (hQ _ _ a1 a2 a3)
theorem uN (F:Fz σ0 made num bs kd ld) (hl:l≤5) (k:Kd) (b:Nat):mx bs k b (tellList (tell ⟨bs,stk⟩ l)):=λs=>by
 have hp:4^l≤4^5:=Nat.pow_le_pow_right (by decide) hl
 cases hb:bs[b]? with
 |none=>
  have:bs.getD b aY=aY:=by rw [List.getD_eq_getElem?_getD,hb];rfl
  rw [this]
  exact Nat.zero_le _
 |some bd=>
  rw [aI hb]
  have bok:=F.ok bd (List.mem_of_getElem? hb)
  have hlen:=mE bok
  have:=dt [32] (60*4^5+10) ((tellList (tell ⟨bs,stk⟩ l) bd.aj s).1.map (m9 k)) (by
   intro x hx
   obtain ⟨y,hy,rfl⟩:=List.mem_map.mp hx
   have:=dI (P:=λx=>x.length≤60*4^l) (Q:=aZ bs) (λit s h=>fh (sh:=⟨bs,stk⟩) F.ok l h) bd.aj s bok.aj y hy
   have hk:(if k= .az then fG++ [61] else []).length≤10:=by split<;>exact Nat.le_of_ble_eq_true rfl
   rw [m9,List.length_append]
   exact Lh hp this hk)
  rw [List.length_map,dn] at this
  have h2:=Nat.mul_le_mul_right (60*4^5+10+ [32].length) hlen
  rw [List.length_singleton] at h2 this
  omega
theorem v8 (F:Fz σ0 made num bs kd ld) (B:Ob σ0 made bs k b st mn ex ac r v a bd) (hlen:mx bs k b w):(sharedO ⟨bs,stk⟩ w l k b st mn s).1.length≤900100:=by
 have uh:=pb (s:=s) (b:=b) (st:=st) (mn:=mn) (k:=k)
 by_cases hk:k= .str
 ·subst hk
  obtain ⟨_,o1,o2⟩:=(F.ok bd (List.mem_of_getElem? B.hb)).str B.hk
  unfold sharedO
  rw [aI B.hb]
  dsimp only
  split<;>simp only [List.length_append,List.length_cons,List.length_nil,ew,o1]<;>omega
 ·have:=hlen (bo (meet s b) b l)
  rw [nq hk]
  split
  ·dsimp only;exact Of uh
  ·simp only [List.length_append,List.length_cons,List.length_nil];exact LV uh this
theorem oN (F:Fz σ0 made num bs kd ld) (hw: ∀it s,tell ⟨bs,stk⟩ l it s=tellW ⟨bs,stk⟩ w l it s) (J2: ∀(r b st mn:Nat) (ex:Bool) (ac a:Nat) (k:Kd) (v:AV) (bd:Bd),Ob σ0 made bs k b st mn ex ac r v a bd->wz σ0 num bs kd ld t (m+4) l k r b w)
  (hlen: ∀(k:Kd) b,mx bs k b w):mF σ0 made num bs stk kd ld t l (m+6):=by
 intro σ s it r X hi gK Q hQ
 rw [hw] at hQ
 cases it with
 |num k=>exact AF X.D (Nat.lt_of_le_of_lt hi (Nat.le_of_ble_eq_true rfl)) (X.E _ _ gK) λσ' g=>hQ σ' (X.ext g) g.any
 |obj k b st mn ex ac=>
  obtain ⟨v,a,bd,B⟩:=Ob.of hi gK
  have UO:=v8 (stk:=stk) (l:=l) (s:=s) F B (hlen k b)
  have j9:=FR (sh:=⟨bs,stk⟩) F.ok hi
  have CZ:=tX k
  rw [du] at hQ
  refine aC (bs:= [(103, .ref t),(12, .ref r),(41, .int (l:Nat))]) rfl rfl ?_
  intro R hr hn
  have hh:=X.E _ _ B.h
  have main: ∀sg:Nat,sg=(if ex=true then 120 else 108)->wSs (callI (m+5)) (eG.drop 1) ((eb [(103, .ref t),(12, .ref r),(41, .int (l:Nat))]).put 2 (.bytes [sg])) σ R:=by
   intro sg UP
   rw [←UP] at hQ
   refine a9 (aJ hh) ?_
   refine bb (Option.some.inj (FZ (σ:=σ) k)) ?_
   refine a9 (aJ hh) (?_:callI _ _ _ _ _)
   refine k8 X.D (l:=k.fM) (FA k) (HX k) (Nat.le_trans CZ (Nat.le_of_ble_eq_true rfl)) λσ1 g1=> ?_
   refine bw (eX (by simp only [List.length_cons,List.length_nil];unfold aw;exact NC CZ)) ?_
   have X1:=X.ext g1
   refine (?_:callI _ _ _ _ _)
   refine xY (F.mr.keep X1.E) B.hb B.hk (X1.E _ _ B.h) (B.hv.keep X1.E) B.ha ?_
   refine (?_:callI _ _ _ _ _)
   refine jY X1.D (k:=fy ⟨bs,stk⟩ k b ac) j9 λσ3 g3=> ?_
   refine bw (eX (by simp only [List.length_append,List.length_cons,List.length_nil];unfold aw;exact Oi CZ)) ?_
   have X3:=X1.ext g3
   obtain ⟨dp,ht⟩:=X3.T.t
   refine cV (f:=27) ht rfl rfl ?_
   refine ym (n:=m) F B X3 (stk:=stk) (J2 _ _ _ _ _ _ _ _ _ _ B) (hlen k b) λσ4 X4 g4=> ?_
   refine bw (eX (by simp only [List.length_append,List.length_cons,List.length_nil];unfold aw;exact Lc UO CZ)) ?_
   exact hr _ _ _ (hQ _ X4 ((g1.then g3).any.then g4))
  refine a9 (mh hh) ?_
  cases ex with
  |true=>exact main _ rfl
  |false=>exact main _ rfl
theorem tS (F:Fz σ0 made num bs kd ld): ∀(l:Nat),l≤6-> ∀n,mF σ0 made num bs stk kd ld t l (3*l+6+n)
 |0,_,n=>by
  have:=oN (l:=0) (m:=n) (t:=t) (stk:=stk) (w:=λ_ s=>([],s)) F (λ_ _=>rfl) (λ_ _ _ _ _ _ _ _ _ _ _ _ _ h=>absurd h (Nat.not_lt_zero _)) λ_ _ _=>Nat.zero_le _
  rwa [Nat.add_comm] at this
 |l+1,hl,n=>by
  have ui:l≤5:=Nat.le_of_succ_le_succ hl
  have IH:=tS F l (Nat.le_succ_of_le ui) n
  rw [show 3*l+6+n=3*l+3+n+3 by exact Kc] at IH
  have:=oN (l:=l+1) (m:=3*l+3+n) (t:=t) (stk:=stk) (w:=tellList (tell ⟨bs,stk⟩ l)) F (λ_ _=>rfl) (λr b st mn ex ac a k v bd B σ s _ X dV Q hQ=>by
   rw [aI B.hb] at hQ
   rw [show (((l+1:Nat):Int)-1)=(l:Int) by exact KG]
   have h0:σ0.n≤σ.n:=by
    obtain ⟨es,e,_⟩:=X.T.k
    exact Nat.le_of_lt (Nat.lt_of_le_of_lt F.k (X.D _ _ e))
   cases k with
   |str=>exact absurd rfl dV
   |arr=>exact uJ F B X IH λq σ' h=>hQ q σ' (h.trans (by
     rw [show (m9 .arr:List Nat->List Nat)=id from rfl,List.map_id]))
   |az=>exact v9 F B X (Nat.le_succ_of_le ui) IH h0 hQ) (uN F ui)
  rwa [show 3*l+3+n+6=3*(l+1)+6+n by exact LA] at this
end
theorem eF {σ:a0} {r C x:Nat} {v:AV} {fs:List (Nat×AV)} (h:σ.get r=some (.inst C fs)) (hf:fld C x=true) (hl:fs.length≤100):fW (.ref r) x v σ=some (σ.set r (.inst C (dg x v fs))):=by
 exact (aB h).trans (if_pos ⟨hf,hl⟩)
theorem A7 {S:Nat->Prop} {σ s:a0} {d C x:Nat} {fs:List (Nat×AV)} (v:AV) (D:aR σ) (g:Gr S σ s) (hd:σ.n≤d) (h:s.get d=some (.inst C fs)) (hf:fld C x=true) (hl:fs.length≤100):
  ∃s',fW (.ref d) x v s=some s'/\Gr S σ s'/\s'.get d=some (.inst C (dg x v fs))/\s'.n=s.n/\ ∀i,i≠d->s'.get i=s.get i:=⟨_,eF h hf hl,Gr.bQ D g hd h,aF,rfl,λ_ z=>av z⟩
section
variable {σ σ':a0} {made:List Nat} {num:Nat->Int} {bs:List Bd}
theorem sN {n:Nat} (D:aR σ) {d:Nat} (hd:d≤60) {Q:AV->a0->Prop} (hQ: ∀σ',Gr no σ σ'->σ'.get σ.n=some (.inst 36 [(35, .int (d:Nat)),(112, .ref (σ.n+1)),(113, .ref (σ.n+2))])->σ'.get (σ.n+1)=some (.dict [])->σ'.get (σ.n+2)=some (.dict [])->Q .none σ'):callI (n+1) 25 [.ref σ.n, .int (d:Nat)] (σ.new (.inst 36 [])) Q:=by
 refine aC (bs:= [(103, .ref σ.n),(35, .int (d:Nat))]) rfl rfl ?_
 intro R hr hn
 obtain ⟨s2,e2,g2,h2,n2,k2⟩:=A7 (x:=35) (.int (d:Nat)) D (Gr.new D (.inst 36 [])) (Nat.le_refl _) af rfl (by decide)
 rw [←show (if (60:Int)<((d:Nat):Int) then (60:Int) else ((d:Nat):Int))=((d:Nat):Int) from if_neg (by exact Lg hd)] at e2
 obtain ⟨s4,e4,g4,h4,n4,k4⟩:=A7 (x:=112) (.ref s2.n) D (g2.then (Gr.new g2.ar (.dict []))) (Nat.le_refl _) ((Gr.new g2.ar (.dict [])).ext _ _ h2) rfl (Nat.le_of_ble_eq_true rfl)
 obtain ⟨s6,e6,g6,h6,n6,k6⟩:=A7 (x:=113) (.ref s4.n) D (g4.then (Gr.new g4.ar (.dict []))) (Nat.le_refl _) ((Gr.new g4.ar (.dict [])).ext _ _ h4) rfl (Nat.le_of_ble_eq_true rfl)
 have n2:s2.n=σ.n+1:=n2
 have n4:s4.n=s2.n+1:=n4
 refine a9 e2 (a9 e4 (a9 e6 ?_))
 refine hn _ _ (hQ _ g6 ?_ ?_ ?_)
 ·rw [h6,n4,n2];rfl
 ·rw [k6 _ (by exact C7),←n2]
  exact (Gr.new g4.ar (.dict [])).ext _ _ (by rw [k4 _ (by exact Mq n2)];exact af)
 ·rw [k6 _ (by exact O6),show σ.n+2=s4.n by exact O5 n2 n4];exact af
theorem dx {r x:Nat} {v:AV} (h:bz (.ref r) x σ=some v) (k: ∀i C fs,σ.get i=some (.inst C fs)->σ'.get i=some (.inst C fs)):bz (.ref r) x σ'=some v:=by
 cases hg:σ.get r with
 |none=>
  have e:bz (.ref r) x σ=none:=by show bA σ r _=none;unfold bA;rw [hg]
  rw [e] at h;cases h
 |some o=>
  have e:bz (.ref r) x σ=_:=aB hg
  cases o with
  |inst C fs=>exact (aB (k _ _ _ hg)).trans (e.symm.trans h)
  |_=>rw [e] at h;cases h
theorem DZ {depth:Nat} {stk:List It} (ok: ∀b∈bs,bk bs b) (hd:depth≤6) (sok: ∀it∈stk,aZ bs it) (ns:stk.length≤3):(joinB [] ((tellList (tell ⟨bs,stk⟩ depth) stk TS.zero).1.map (· ++ [10]))).length≤aw:=by
 have se:4^depth≤4^6:=Nat.pow_le_pow_right (by decide) hd
 have:=dt [] (60*4^depth+1) ((tellList (tell ⟨bs,stk⟩ depth) stk TS.zero).1.map (· ++ [10])) (by
  intro x hx
  obtain ⟨y,hy,rfl⟩:=List.mem_map.mp hx
  have:=dI (P:=λx=>x.length≤60*4^depth) (Q:=aZ bs) (λit s h=>fh (sh:=⟨bs,stk⟩) ok depth h) stk TS.zero sok y hy
  rw [List.length_append,List.length_singleton];exact Lq this)
 rw [List.length_map,dn,List.length_nil] at this
 have h2:=Nat.mul_le_mul_right (60*4^depth+1+0) ns
 unfold aw;exact L6 se this h2
theorem jb {n depth mch st L:Nat} {stk:List It} {rs:List Nat} (D:aR σ) (M:jM σ made num bs) (ok: ∀b∈bs,bk bs b) (nb:bs.length≤9) (inj: ∀a b,num a=num b->a=b) (hd:depth≤6)
  (a1:bz (.ref mch) 38 σ=some (.ref st)) (a2:bz (.ref st) 39 σ=some (.ref L)) (a3:σ.get L=some (.list (rs.map .ref))) (A:ae (dJ σ made) stk rs) (sok: ∀it∈stk,aZ bs it) (ns:stk.length≤3)
  {Q:AV->a0->Prop} (hQ: ∀σ',Gr no σ σ'->Q (.bytes (bf ⟨bs,stk⟩ depth)) σ'):callI (n+27) 8 [.ref mch, .int (depth:Nat)] σ Q:=by
 refine aC (bs:= [(37, .ref mch),(35, .int (depth:Nat))]) rfl rfl ?_
 intro R hr hn
 refine (?_:callI _ _ _ _ _)
 refine sN (n:=n+25) D (by exact LS hd) λσ1 g1 t1 t2 t3=>⟨rfl, ?_⟩
 have F:Fz σ made num bs (σ.n+1) (σ.n+2):=⟨D,M,ok,nb,inj,by exact Mk,by exact LR⟩
 have E1:Ext σ σ1:=g1.ext
 have X1:Tl σ num bs (σ.n+1) (σ.n+2) σ.n σ1 TS.zero:=⟨g1.ar,E1,⟨⟨_,t1⟩,⟨[],t2, .nil⟩,⟨List.nodup_nil,λ_ h=>(nomatch h)⟩,by exact Ll,⟨[], [],t3, .nil,λ_=>rfl,List.nodup_nil,λ_ h=>(nomatch h)⟩⟩⟩
 have hlen:((rs.map AV.ref).map ([·])).length=stk.length:=by rw [List.length_map,List.length_map,A.len]
 refine a9 (dx a1 λi C fs e=>E1 _ _ e) (a9 (dx a2 λi C fs e=>E1 _ _ e) (a9 (cI (E1 _ _ a3)) (?_:bE _ _ _ _ _ _ _ _ _ _)))
 refine bC ((rs.map AV.ref).map ([·])) (λi acc ρ s'=>ρ 34=some (.ref σ.n)/\acc=(((tellList (tell ⟨bs,stk⟩ depth) (stk.take i) TS.zero).1.map (· ++ [10]))).map .bytes/\Tl σ num bs (σ.n+1) (σ.n+2) σ.n s' (tellList (tell ⟨bs,stk⟩ depth) (stk.take i) TS.zero).2/\Gr (KL (σ.n+1) (σ.n+2)) σ1 s') ?_ ?_ ?_ turns 0 [] _ σ1 (Nat.zero_le _) (by rw [hlen,aP];exact ze ns) ⟨rfl,rfl,X1,Gr.refl g1.ar⟩
 ·rintro i acc ρ s' ⟨_,_,Y,_⟩
  exact cq (Y.E _ _ a3)
 ·rintro i acc ρ s' vs ⟨e1,rfl,Y,g⟩ hx K hK
  refine get_m hx λrr hr=> ?_
  obtain ⟨it,hit,gK⟩: ∃it,stk[i]?=some it/\dJ σ made it rr:=A.get hr
  have mA:=sok it (List.mem_of_getElem? hit)
  have ht:s'.get σ.n=some (.inst 36 [(35, .int (depth:Nat)),(112, .ref (σ.n+1)),(113, .ref (σ.n+2))]):=g.keep _ _ (λz=>by rcases z with z|z<;>omega) t1
  have told:=tS (t:=σ.n) (stk:=stk) F depth hd (26-(3*depth+6)+n)
  rw [show 3*depth+6+(26-(3*depth+6)+n)=n+26 by exact Ku hd] at told
  have hl:=fh (sh:=⟨bs,stk⟩) ok depth mA (s:=(tellList (tell ⟨bs,stk⟩ depth) (stk.take i) TS.zero).2)
  have se:4^depth≤4^6:=Nat.pow_le_pow_right (by decide) hd
  refine (?_:wE _ _ _ _ _)
  refine aa e1 (aa e1 (a9 (aQ (x:=35) ht rfl rfl rfl) (cV (f:=26) ht rfl rfl (?_:callI _ _ _ _ _))))
  refine told s' _ it rr Y mA gK _ λσ3 Y3 G3=> ?_
  refine bw (eX (by simp only [List.length_cons,List.length_nil];unfold aw;exact N2 hl se)) ?_
  refine hK _ _ _ ⟨e1, ?_, ?_,g.then G3⟩
  ·rw [fK hit,List.map_append,List.map_append];rfl
  ·rw [fK hit];exact Y3
 ·rintro acc ρ s' ⟨_,rfl,Y,g3⟩
  rw [hlen,List.take_length]
  refine And.intro rfl (a9 (yf af (DZ ok hd sok ns)) ?_)
  refine hr _ _ _ (hQ _ (g1.trans (T:=no) (g3.then (Gr.new g3.ar _).any) (λ_ z=>z) λi o e z=> ?_))
  have:=D i o e
  rcases z with z|z<;>omega
end
structure DK (σ:a0) (dk L:Nat):Prop where
 ne:dk≠L
 d: ∃m:Int,0≤m/\m<1000003/\σ.get dk=some (.dict [(.str 41, .ref L),(.str 42, .int m)])
 l: ∃xs:List Int,xs.length≤63/\(∀x∈xs,0≤x/\x<1000003)/\σ.get L=some (.list (xs.map .int))
section
variable {σ σ':a0} {dk L:Nat}
theorem DK.keep (h:DK σ dk L) (k: ∀i o,σ.get i=some o->σ'.get i=some o):DK σ' dk L:=by
 obtain ⟨h0,⟨m,h1,h2,h3⟩,⟨xs,h4,h5,h6⟩⟩:=h
 exact ⟨h0,⟨m,h1,h2,k _ _ h3⟩,⟨xs,h4,h5,k _ _ h6⟩⟩
theorem eq_list {s:a0} {a b:Nat} {xs ys:List AV} {r:Bool} (h:s.get a=some (.list xs)) (h':s.get b=some (.list ys)) (e:(if xs.length=ys.length then listEq xs ys else some false)=some r):fF .eq (.ref a) (.ref b) s=some r:=by
 exact (aB h).trans ((aB h').trans e)
theorem iM {s:a0} {a b:Nat} {xs ys:List AV} {r:Bool} (h:s.get a=some (.list xs)) (h':s.get b=some (.list ys)) (e:(if xs.length=ys.length then listEq xs ys else some false)=some r):fF .ne (.ref a) (.ref b) s=some (!r):=
 congrArg (Option.map (!·)) (eq_list h h' e)
theorem tZ {σ:a0} {a b:Int} (h:(small a&&small b)=true):bin .mul (.int a) (.int b) σ=some (.int (a*b),σ):=if_pos h
theorem draw {n:Nat} (D:aR σ) (K:DK σ dk L) {many:Nat} (hm:0<many) {Q:AV->a0->Prop} (hQ: ∀k σ',k<many->DK σ' dk L->Gr (KL dk L) σ σ'->Q (.int (k:Nat)) σ'):callI (n+1) 10 [.ref dk, .int (many:Nat)] σ Q:=by
 obtain ⟨h0,⟨m,m1,m2,h3⟩,⟨xs,h4,h5,h6⟩⟩:=id K
 refine aC (bs:= [(45, .ref dk),(47, .int (many:Nat))]) rfl rfl ?_
 intro R hr hn
 have J3: ∀s:a0,∀m:AV,s.get dk=some (.dict [(.str 41, .ref L),(.str 42,m)])->bT (.ref dk) (.str 41) s=some (.ref L):=λs m h=>aB h
 have Pt: ∀s:a0,∀m:AV,s.get dk=some (.dict [(.str 41, .ref L),(.str 42,m)])->bT (.ref dk) (.str 42) s=some m:=λs m h=>aB h
 have gn:=Gr.new D (.list [])
 have pf:((many:Nat):Int)≠0:=by exact NB hm
 have J4: ∀(x:Int) (s:a0),bin .mod (.int x) (.int (many:Nat)) s=some (.int (((x%(many:Nat)).toNat:Nat):Int),s):=λx s=>by
  rw [Int.toNat_of_nonneg (Int.emod_nonneg x pf)]
  exact if_pos (by exact vW hm)
 have dN: ∀x:Int,(x%((many:Nat):Int)).toNat<many:=λx=>by
  have:=Int.emod_nonneg x pf
  have:=Int.emod_lt_of_pos x (show (0:Int)<(many:Nat) by exact vW hm)
  exact O9 hm this
 have hL:(σ.new (.list [])).get L=some (.list (xs.map .int)):=gn.ext _ _ h6
 have sb:(σ.new (.list [])).get dk=some (.dict [(.str 41, .ref L),(.str 42, .int m)]):=gn.ext _ _ h3
 cases xs with
 |cons x xs=>
  have hp:d7 (.ref L) 46 [.int 0] (σ.new (.list []))=some (.int x,(σ.new (.list [])).set L (.list (xs.map .int))):=
   (aB hL).trans (if_pos (c:=(0:Int)=0/\(xs.map AV.int).length≤aw) ⟨rfl,by rw [List.length_map];rw [List.length_cons] at h4;unfold aw;exact KY h4⟩)
  refine a9 (J3 σ _ h3) (i6 (iM hL af rfl) (a9 (J3 _ _ sb) (bL ⟨_,hL⟩ hL (a9 hp (bw (J4 _ _) ?_)))))
  refine hr _ _ _ (hQ _ _ (dN x) ⟨h0,⟨m,m1,m2,(av h0).trans sb⟩,⟨xs,Nat.le_of_succ_le h4,λy hy=>h5 y (List.mem_cons_of_mem _ hy),aF⟩⟩ (gn.any.then ((Gr.set gn.ar hL _).weak λ_ z=> .inr z)))
 |nil=>
  have e1: ∀s:a0,bin .mul (.int m) (.int 4801) s=some (.int (m*4801),s):=λs=>tZ (by simp [small];exact pR m1 m2)
  have b1:=Int.emod_nonneg (m*4801+61) (show (1000003:Int)≠0 by decide)
  have b2:=Int.emod_lt_of_pos (m*4801+61) (show (0:Int)<1000003 by decide)
  generalize hq:(m*4801+61)%1000003=q at b1 b2
  have e4:gi (.ref dk) (.str 42) (.int q) (σ.new (.list []))=some ((σ.new (.list [])).set dk (.dict [(.str 41, .ref L),(.str 42, .int q)])):=j8 sb (Nat.le_of_ble_eq_true rfl) rfl
  have e5: ∀s:a0,bin .div (.int q) (.int 7) s=some (.int (q/7),s):=λs=>if_pos ⟨by decide,by simp [small];exact NK hq,by decide⟩
  rw [←hq] at e4
  refine a9 (J3 σ _ h3) (i6 (iM hL af rfl) (a9 (Pt _ _ sb) (bw (e1 _) (a9 e4 (?_:oB _ _)))))
  rw [hq]
  refine a9 (Pt _ _ aF) (bw (e5 _) (bw (J4 _ _) ?_))
  exact hr _ _ _ (hQ _ _ (dN _) ⟨h0,⟨q,b1,b2,aF⟩,⟨[],Nat.zero_le _,(λ_ h=>nomatch h),(av (Ne.symm h0)).trans hL⟩⟩ (gn.any.then ((Gr.set gn.ar sb _).weak λ_ z=> .inl z)))
theorem F9 {n:Nat} (D:aR σ) (hs:σ.bg.length≤63) {Q:AV->a0->Prop} (hQ: ∀dk L σ',DK σ' dk L->Gr no σ σ'->σ.n≤dk->σ.n≤L->Q (.ref dk) σ'):callI (n+1) 9 [.bg] σ Q:=by
 refine aC (bs:= [(43, .bg)]) rfl rfl ?_
 have yQ:CK .bg 0 (some 60) σ=some (.ref σ.n,σ.new (.list ((σ.bg.take 60).map .int))):=by
  refine (if_pos (show σ.bg.length≤aw by unfold aw;exact O8 hs)).trans ?_
  rw [List.map_take]
  rfl
 generalize D3:σ.bg.take 60=xs at yQ
 have Pu:xs.length≤60:=by rw [←D3,List.length_take];exact NA
 intro R hr hn
 refine a9 yQ (a9 (cI af) (?_:bE _ _ _ _ _ _ _ _ _ _))
 have g1:=Gr.new D (.list (xs.map .int))
 refine bC ((xs.map AV.int).map ([·])) (λk acc ρ s=>s=σ.new (.list (xs.map .int))/\acc=((xs.take k).map (· %1000003)).map .int) ?_ ?_ ?_ turns 0 [] _ _ (Nat.zero_le _) (by rw [List.length_map,List.length_map,aP];exact Cq Pu) ⟨rfl,rfl⟩
 ·rintro k acc ρ s ⟨rfl,_⟩;exact cq af
 ·rintro k acc ρ s vs ⟨rfl,rfl⟩ hx K hK
  refine get_m hx λx h1=>hK _ _ _ ⟨rfl, ?_⟩
  rw [List.take_add_one,h1,List.map_append,List.map_append]
  rfl
 ·rintro acc ρ s ⟨rfl,rfl⟩
  rw [List.length_map,List.length_map,List.take_length]
  have hy: ∀y∈xs.map (· %1000003),0≤y/\y<1000003:=by
   intro y hy
   obtain ⟨x,_,rfl⟩:=List.mem_map.mp hy
   exact ⟨Int.emod_nonneg x (by decide),Int.emod_lt_of_pos x (by decide)⟩
  have J5:(xs.map (· %1000003)).length≤60:=by rw [List.length_map];exact Pu
  generalize xs.map (· %1000003)=ys at hy J5
  have g2:=g1.then (Gr.new g1.ar (.list (ys.map .int)))
  have g3:=Gr.new g2.ar (.tup [.ref (σ.new (.list (xs.map .int))).n, .int 4711])
  have D4:=g3.ext _ _ (af (σ:=σ.new (.list (xs.map .int))) (o:= .list (ys.map .int)))
  refine a9 (cQ af) (a9 (cI D4) (?_:dm _ _ _ _ _ _ _ _))
  refine cw (C:=callI n) ((ys.map AV.int).map ([·])) (λk ρ s=>s=((σ.new (.list (xs.map .int))).new (.list (ys.map .int))).new (.tup [.ref (σ.new (.list (xs.map .int))).n, .int 4711])/\ρ 41=some (.ref (σ.new (.list (xs.map .int))).n)/\ ∃m:Int,0≤m/\m<1000003/\ρ 42=some (.int m)) ?_ ?_ ?_ turns 0 _ _ (Nat.zero_le _) (by rw [List.length_map,List.length_map,aP];exact Cq J5) ⟨rfl,rfl,4711,by decide,by decide,rfl⟩
  ·rintro k ρ s ⟨rfl,_⟩;exact cq D4
  ·rintro k ρ s vs ⟨rfl,J6,m,m1,m2,J7⟩ hx K hK
   refine get_m hx λx h1=> ?_
   refine (?_:wSs _ _ _ _ _)
   refine aa J7 (bw (tZ (by simp [small];exact pR m1 m2)) ?_)
   exact hK _ _ ⟨rfl,J6,_,Int.emod_nonneg _ (by decide),Int.emod_lt_of_pos _ (by decide),rfl⟩
  ·rintro ρ2 σ2 ⟨rfl,J6,m,m1,m2,J7⟩
   refine aa J6 (aa J7 ?_)
   have g4:=Gr.new g3.ar (.dict [(.str 41, .ref (σ.new (.list (xs.map .int))).n),(.str 42, .int m)])
   exact hr _ _ _ (hQ _ (σ.new (.list (xs.map .int))).n _ ⟨λz=>absurd (g3.ar _ _ D4) (by exact pQ z),⟨m,m1,m2,af⟩,⟨ys,by exact Ls J5,hy,g4.ext _ _ D4⟩⟩ (g2.then (g3.then g4)) (Nat.le_trans g2.n g3.n) (Nat.le_succ _))
structure Up (lo:Nat) (σ σ':a0):Prop where
 n:σ.n≤σ'.n
 k: ∀i o,lo≤i->σ.get i=some o->σ'.get i=some o
structure DS (σ0:a0) (dk L lo:Nat) (σ:a0):Prop where
 D:aR σ
 K:DK σ dk L
 hd:dk<lo
 hl:L<lo
 dP:lo≤σ0.n
 g:Gr (λi=>KL dk L i∨σ0.n≤i) σ0 σ
theorem Up.trans {lo:Nat} {a b c:a0} (h:Up lo a b) (h':Up lo b c):Up lo a c:=⟨Nat.le_trans h.n h'.n,λi o l e=>h'.k i o l (h.k i o l e)⟩
theorem Up.of {lo:Nat} (g:Gr no σ σ'):Up lo σ σ':=⟨g.n,λi o _ e=>g.keep i o (λz=>z) e⟩
theorem Up.new {lo:Nat} (D:aR σ) (o:AO):Up lo σ (σ.new o):= .of (Gr.new D o)
variable {σ0:a0} {lo:Nat}
theorem DS.ext (S:DS σ0 dk L lo σ) (g:Gr no σ σ'):DS σ0 dk L lo σ':=⟨g.ar,S.K.keep g.ext,S.hd,S.hl,S.dP,S.g.then g.any⟩
theorem DS.new (S:DS σ0 dk L lo σ) (o:AO):DS σ0 dk L lo (σ.new o):=S.ext (Gr.new S.D o)
theorem DS.le (S:DS σ0 dk L lo σ):lo≤σ.n:=Nat.le_trans S.dP S.g.n
theorem DS.bo (S:DS σ0 dk L lo σ) {r:Nat} {o o':AO} (h:σ.get r=some o) (hr:σ0.n≤r):DS σ0 dk L lo (σ.set r o'):=by
 have h1:dk≠r:=Nat.ne_of_lt (Nat.lt_of_lt_of_le S.hd (Nat.le_trans S.dP hr))
 have h2:L≠r:=Nat.ne_of_lt (Nat.lt_of_lt_of_le S.hl (Nat.le_trans S.dP hr))
 have g:=Gr.set S.D h o'
 exact ⟨g.ar,⟨S.K.ne,let ⟨m,a,b,e⟩:=S.K.d;⟨m,a,b,(av h1).trans e⟩,let ⟨xs,a,b,e⟩:=S.K.l;⟨xs,a,b,(av h2).trans e⟩⟩,S.hd,S.hl,S.dP,S.g.then (g.weak λi z=> .inr (z▸hr))⟩
theorem DS.draw {n:Nat} (S:DS σ0 dk L lo σ) {many:Nat} (hm:0<many) {Q:AV->a0->Prop} (hQ: ∀k σ',k<many->DS σ0 dk L lo σ'->Up lo σ σ'->Q (.int (k:Nat)) σ'):callI (n+1) 10 [.ref dk, .int (many:Nat)] σ Q:=
 Mine.Internal.C.draw S.D S.K hm λk σ' h1 K g=>hQ k σ' h1 ⟨g.ar,K,S.hd,S.hl,S.dP,S.g.then (g.weak λ_ z=> .inl z)⟩ ⟨g.n,λi o hi e=>g.keep i o (λz=>z.elim (λz=>Nat.lt_irrefl _ (Nat.lt_of_lt_of_le S.hd (z▸hi))) λz=>Nat.lt_irrefl _ (Nat.lt_of_lt_of_le S.hl (z▸hi))) e⟩
theorem DS.end_ (S:DS σ0 dk L lo σ) (D:aR σ0):Gr (KL dk L) σ0 σ:=⟨S.g.n,S.g.ar,λi o hn e=>S.g.keep i o (λz=>z.elim hn λz=>Nat.lt_irrefl _ (Nat.lt_of_lt_of_le (D i o e) z)) e,S.g.bg⟩
end
noncomputable def itV:It->List AV
 | .num k=> [.str 49, .int (k:Nat)]
 | .obj kd b st mn ex ac=> [.str kd.code, .int (b:Nat), .int (st:Nat), .int (mn:Nat), .bool ex, .int (ac:Nat)]
noncomputable def bt (σ:a0) (lo:Nat) (it:It) (v:AV):Prop:= ∃r,lo≤r/\v= .ref r/\σ.get r=some (.list (itV it))
noncomputable def dz (σ:a0) (lo:Nat) (bd:Bd) (v:AV):Prop:= ∃r T,lo≤r/\lo≤T/\v= .ref r/\σ.get r=some (.list [.str bd.kd.code, .ref T, .int (bd.ac:Nat)])/\
 (bd.kd= .str->σ.get T=some (.list (bd.ocs.map λx=>AV.int ((x:Nat):Int))))/\(bd.kd≠ .str-> ∃vs,σ.get T=some (.list vs)/\ae (bt σ lo) bd.aj vs)
noncomputable def fN (σ:a0) (lo:Nat) (sh:Sh) (d:Nat):Prop:= ∃B bv S sv,lo≤d/\lo≤B/\lo≤S/\σ.get d=some (.dict [(.str 56, .ref B),(.str 58, .ref S)])/\σ.get B=some (.list bv)/\ae (dz σ lo) sh.bs bv/\σ.get S=some (.list sv)/\ae (bt σ lo) sh.st sv
noncomputable def kQ (σ:a0) (lo:Nat) (z:Kd×Nat) (v:AV):Prop:= ∃r,lo≤r/\v= .ref r/\σ.get r=some (.tup [.str z.1.code, .int (z.2:Nat)])
noncomputable def qH (σ:a0) (lo:Nat) (zs:List (Kd×Nat)) (q:Nat):Prop:= ∃vs,lo≤q/\σ.get q=some (.list vs)/\ae (kQ σ lo) zs vs
noncomputable def cj (pk:Nat) (zs:List (Kd×Nat)):It->Prop
 | .num k=>k≤pk
 | .obj kd b st mn ex ac=>zs[b]?=some (kd,st+mn)/\st≤1/\mn≤3/\(kd= .az->st=0)/\2≤ac/\ac≤3
noncomputable def bH (b:Bd):Kd×Nat:=(b.kd,b.size)
theorem cj.ok {bs:List Bd} {it:It} (h:cj 3 (bs.map bH) it):aZ bs it:=by
 cases it with
 |num k=>exact h
 |obj kd b st mn ex ac=>
  obtain ⟨h1,h2⟩:=h
  rw [List.getElem?_map,Option.map_eq_some_iff] at h1
  obtain ⟨bd,e1,e2⟩:=h1
  exact ⟨⟨bd,e1,congrArg Prod.fst e2,(congrArg Prod.snd e2).symm⟩,h2⟩
theorem cj.up {zs:List (Kd×Nat)} {it:It} (h:cj 2 zs it):cj 3 zs it:=by
 cases it with
 |num k=>exact Nat.le_succ_of_le h
 |obj kd b st mn ex ac=>exact h
theorem aZ.s {bs:List Bd} {it:It} (h:aZ bs it):cj 3 (bs.map bH) it:=by
 cases it with
 |num k=>exact h
 |obj kd b st mn ex ac=>
  obtain ⟨⟨bd,e1,e2,e3⟩,h2⟩:=h
  refine ⟨?_,h2⟩
  rw [List.getElem?_map,e1,e3,←e2]
  rfl
section
variable {σ σ':a0} {lo:Nat}
theorem bt.keep (k: ∀i o,lo≤i->σ.get i=some o->σ'.get i=some o) {it:It} {v:AV} (h:bt σ lo it v):bt σ' lo it v:=by
 obtain ⟨r,h1,h2,h3⟩:=h;exact ⟨r,h1,h2,k _ _ h1 h3⟩
theorem kQ.keep (k: ∀i o,lo≤i->σ.get i=some o->σ'.get i=some o) {z:Kd×Nat} {v:AV} (h:kQ σ lo z v):kQ σ' lo z v:=by
 obtain ⟨r,h1,h2,h3⟩:=h;exact ⟨r,h1,h2,k _ _ h1 h3⟩
theorem qH.keep (k: ∀i o,lo≤i->σ.get i=some o->σ'.get i=some o) {zs:List (Kd×Nat)} {q:Nat} (h:qH σ lo zs q):qH σ' lo zs q:=by
 obtain ⟨vs,h1,h2,h3⟩:=h;exact ⟨vs,h1,k _ _ h1 h2,h3.imp λ_ _ z=>z.keep k⟩
theorem dz.keep (k: ∀i o,lo≤i->σ.get i=some o->σ'.get i=some o) {bd:Bd} {v:AV} (h:dz σ lo bd v):dz σ' lo bd v:=by
 obtain ⟨r,T,h1,h2,h3,h4,h5,h6⟩:=h
 refine ⟨r,T,h1,h2,h3,k _ _ h1 h4,λz=>k _ _ h2 (h5 z),λz=> ?_⟩
 obtain ⟨vs,q1,q2⟩:=h6 z
 exact ⟨vs,k _ _ h2 q1,q2.imp λ_ _ z=>z.keep k⟩
theorem fN.keep (k: ∀i o,lo≤i->σ.get i=some o->σ'.get i=some o) {sh:Sh} {d:Nat} (h:fN σ lo sh d):fN σ' lo sh d:=by
 obtain ⟨B,bv,S,sv,h1,h2,h3,h4,h5,h6,h7,h8⟩:=h
 exact ⟨B,bv,S,sv,h1,h2,h3,k _ _ h1 h4,k _ _ h2 h5,h6.imp λ_ _ z=>z.keep k,k _ _ h3 h7,h8.imp λ_ _ z=>z.keep k⟩
theorem Gr.above {dk L:Nat} (hd:dk<lo) (hl:L<lo) (g:Gr (KL dk L) σ σ'): ∀i o,lo≤i->σ.get i=some o->σ'.get i=some o:=λi o h e=>g.keep i o (λz=>by rcases z with z|z<;>omega) e
theorem Gr.bh (g:Gr no σ σ'): ∀i o,lo≤i->σ.get i=some o->σ'.get i=some o:=λi o h e=>g.ext i o e
theorem cG {r:Nat} {xs:List AV} {k:Nat} (h:σ.get r=some (.list xs)) (hk:k<1000):bT (.ref r) (.int (k:Nat)) σ=xs[k]?:=by
 refine (aB h).trans ((if_pos (c:=0≤((k:Nat):Int)/\small (k:Nat)=true) ⟨Int.natCast_nonneg _,by simp [small];exact NV hk⟩).trans ?_)
 rw [Int.toNat_natCast]
theorem len_list {r:Nat} {xs:List AV} (h:σ.get r=some (.list xs)) (hk:xs.length≤aw):fu 51 [.ref r] σ=some (.int (xs.length:Nat),σ):=(aB h).trans (if_pos hk)
theorem yq: ∀k:Kd,k≠ .az->(!decide (k.code=16))=true
 | .arr,_| .str,_=>rfl
 | .az,h=>absurd rfl h
theorem nS: ∀k:Kd,k≠ .str->(!decide (k.code=19))=true
 | .arr,_| .az,_=>rfl
 | .str,h=>absurd rfl h
theorem QW: ∀c:Bool,2≤(if c=true then 2 else 3)
 |true|false=>by decide
theorem RO: ∀c:Bool,(if c=true then 2 else 3)≤3
 |true|false=>by decide
theorem Ow {kd:Kd} {b st z:Nat} {ex:Bool} (h:st≤z): ∀c:Bool, [.str kd.code, .int (b:Nat), .int (st:Nat), .int ((z:Int)-(st:Int)), .bool ex, .int (3-(if c=true then 1 else 0))]=itV (.obj kd b st (z-st) ex (if c=true then 2 else 3))
 |true|false=>by rw [←Int.ofNat_sub h];rfl
theorem bt.mono {bN:Nat} (h:bN≤lo) {it:It} {v:AV} (x:bt σ lo it v):bt σ bN it v:=let ⟨r,h1,h2⟩:=x;⟨r,Nat.le_trans h h1,h2⟩
variable {σ0:a0} {n dk L q:Nat} {zs:List (Kd×Nat)} {ρ:Loc}
theorem rI {R:KF} {b z st:Nat} {kd:Kd} {s3:a0} (S:DS σ0 dk L lo σ) (S3:DS σ0 dk L lo s3) (U:Up lo σ s3) (ph:zs[b]?=some (kd,z)) (h1:st≤1) (h2:kd= .az->st=0) (pj:st≤z) (hz:z≤3)
  (nE:ρ 45=some (.ref dk)) (r4:ρ 4=some (.int (b:Nat))) (Gn:ρ 13=some (.str kd.code)) (UQ:ρ 52=some (.int (z:Nat))) (Pw:ρ 53=some (.int (st:Nat)))
  (hr: ∀it v ρ σ',bt σ' σ.n it v->cj 2 zs it->DS σ0 dk L lo σ'->Up lo σ σ'->R (.ret v) ρ σ'):wSs (callI (n+1)) (k9.drop 4) ρ s3 R:=by
 refine aa Gn (aa r4 (aa Pw (aa UQ (aa Pw (aa nE (?_:callI _ _ _ _ _))))))
 refine S3.draw (many:=4) (by decide) λe1 σ4 _ S4 U4=> ?_
 refine aa nE (?_:callI _ _ _ _ _)
 refine S4.draw (many:=4) (by decide) λe2 σ5 _ S5 U5=> ?_
 refine hr (.obj kd b st (z-st) (decide (((e1:Nat):Int)=3)) (if (decide (((e2:Nat):Int)=3))=true then 2 else 3)) _ _ _ ⟨σ5.n, ?_,rfl,af.trans (congrArg some (congrArg AO.list (Ow pj _)))⟩ ⟨?_,h1,Nat.le_trans (Nat.sub_le _ _) hz,h2,QW _,RO _⟩ (S5.new _) (U.trans (U4.trans (U5.trans (Up.new S5.D _))))
 ·exact Nat.le_trans U.n (Nat.le_trans U4.n U5.n)
 ·rw [Nat.add_sub_cancel' pj];exact ph
theorem DC (S:DS σ0 dk L lo σ) (Z:qH σ lo zs q) (hz:0<zs.length/\zs.length≤5) (eZ: ∀(i:Nat) (kd:Kd) (z:Nat),zs[i]?=some (kd,z)->z≤3/\1≤z/\(kd≠ .az->2≤z))
  {Q:AV->a0->Prop} (hQ: ∀it v σ',bt σ' σ.n it v->cj 2 zs it->DS σ0 dk L lo σ'->Up lo σ σ'->Q v σ'):callI (n+2) 11 [.ref dk, .ref q] σ Q:=by
 refine aC (bs:= [(45, .ref dk),(50, .ref q)]) rfl rfl ?_
 intro R hr hn
 have hr:=λit v ρ σ' a b c d=>hr v ρ σ' (hQ it v σ' a b c d)
 refine (?_:callI _ _ _ _ _)
 refine S.draw (many:=3) (by decide) λk σ1 hk S1 U1=> ?_
 by_cases ij:((k:Nat):Int)=2
 ·refine bb (decide_eq_true ij) (?_:callI _ _ _ _ _)
  refine S1.draw (many:=3) (by decide) λk' σ2 f9 S2 U2=> ?_
  exact hr (.num k') _ _ _ ⟨σ2.n,Nat.le_trans U1.n U2.n,rfl,af⟩ (Nat.le_of_lt_succ f9) (S2.new _) (U1.trans (U2.trans (Up.new S2.D _)))
 ·obtain ⟨vs,q1,q2,q3⟩:=Z.keep U1.k
  have hlen:=q3.len
  refine aG (decide_eq_false ij) (a9 (len_list q2 (by unfold aw;exact N9 hz hlen)) (?_:callI _ _ _ _ _))
  refine S1.draw (many:=vs.length) (by exact NW hz hlen) λb σ2 hb S2 U2=> ?_
  obtain ⟨lU,yR,Px,UR⟩:=qH.keep U2.k ⟨vs,q1,q2,q3⟩
  cases (U2.k _ _ q1 q2).symm.trans Px
  obtain ⟨⟨kd,z⟩,ph⟩: ∃z,zs[b]?=some z:=⟨_,List.getElem?_eq_getElem (by exact vR hlen hb)⟩
  obtain ⟨w,hw,r,CY,rfl,J8⟩:=UR.get' ph
  obtain ⟨z1,z2,z3⟩:=eZ _ _ _ ph
  refine a9 ((cG Px (show b<1000 by exact LI hz hlen hb)).trans hw) (a9 (cQ J8) ?_)
  by_cases aW:kd= .az
  ·refine aG (by rw [aW];rfl) ?_
   exact rI (ρ:=((((eb [(45, .ref dk),(50, .ref q)]).put 4 (.int (b:Nat))).put 13 (.str kd.code)).put 52 (.int (z:Nat))).put 53 (.int (0:Nat))) S S2 (U1.trans U2) ph (Nat.zero_le _) (λ_=>rfl) (Nat.zero_le _) z1 rfl rfl rfl rfl rfl hr
  ·refine bb (yq kd aW) ?_
   refine (?_:callI _ _ _ _ _)
   refine S2.draw (many:=2) (by decide) λst σ3 pj S3 U3=> ?_
   exact rI (ρ:=((((eb [(45, .ref dk),(50, .ref q)]).put 4 (.int (b:Nat))).put 13 (.str kd.code)).put 52 (.int (z:Nat))).put 53 (.int (st:Nat))) S S3 (U1.trans (U2.trans U3)) ph (Nat.le_of_lt_succ pj) (λh=>absurd h aW) (Nat.le_trans (Nat.le_of_lt pj) (z3 aW)) z1 rfl rfl rfl rfl rfl hr
end
noncomputable def e9 (p:Kd×Nat):Prop:=match p.1 with
 | .arr=>2≤p.2/\p.2≤3
 | .str=>p.2=3
 | .az=>p.2=1
structure dU (pk:Nat) (zs:List (Kd×Nat)) (b:Bd):Prop where
 aj: ∀it∈b.aj,cj pk zs it
 str:b.kd= .str->b.aj= []/\ ∀x∈b.ocs,x=97∨x=98
 z:e9 (bH b)
 ac:2≤b.ac/\b.ac≤3
theorem dU.ok {bs:List Bd} {b:Bd} (h:dU 3 (bs.map bH) b):bk bs b:=by
 have hz:=h.z
 refine ⟨λit hi=>(h.aj it hi).ok,λhk=>⟨(h.str hk).1, ?_,(h.str hk).2⟩,λhk=> ?_,λhk=> ?_,h.ac⟩
 ·simpa [e9,bH,hk,Bd.size] using hz
 ·simpa [e9,bH,hk,Bd.size] using hz
 ·simpa [e9,bH,hk,Bd.size] using hz
theorem bk.s {bs:List Bd} {b:Bd} (h:bk bs b):dU 3 (bs.map bH) b:=by
 refine ⟨λit hi=>(h.aj it hi).s,λhk=>⟨(h.str hk).1,(h.str hk).2.2⟩, ?_,h.ac⟩
 cases hk:b.kd with
 |arr=>simpa [e9,bH,hk,Bd.size] using h.arr hk
 |str=>simpa [e9,bH,hk,Bd.size] using (h.str hk).2.1
 |az=>simpa [e9,bH,hk,Bd.size] using h.az hk
theorem dU.up {zs:List (Kd×Nat)} {b:Bd} (h:dU 2 zs b):dU 3 zs b:=⟨λit hi=>(h.aj it hi).up,h.str,h.z,h.ac⟩
theorem cF: ∀(n a:Nat),(upTo a n).length=n
 |0,a=>rfl
 |n+1,a=>by simp [upTo,cF n]
section
variable {σ σ' σ0:a0} {lo n dk L q m:Nat} {zs:List (Kd×Nat)} {ρ:Loc}
theorem qi (h: ∀p∈zs,e9 p): ∀(i:Nat) (kd:Kd) (z:Nat),zs[i]?=some (kd,z)->z≤3/\1≤z/\(kd≠ .az->2≤z):=λi kd z e=>by
 have:=h _ (List.mem_of_getElem? e)
 cases kd with
 |arr=>exact ⟨this.2,Nat.le_of_succ_le this.1,λ_=>this.1⟩
 |str=>cases (show z=3 from this);exact ⟨Nat.le_refl _,Nat.le_of_ble_eq_true rfl,λ_=>Nat.le_of_ble_eq_true rfl⟩
 |az=>cases (show z=1 from this);exact ⟨Nat.le_of_ble_eq_true rfl,Nat.le_refl _,λq=>absurd rfl q⟩
theorem gI {α:Type} {P:α->Prop} {l:List α} {a:α} (h: ∀x∈l,P x) (ha:P a): ∀x∈l++ [a],P x:=λx hx=>(List.mem_append.mp hx).elim (h x) λhx=>List.mem_singleton.mp hx▸ha
theorem qF (S:DS σ0 dk L lo σ) (Z:qH σ lo zs q) (hz:0<zs.length/\zs.length≤5) (eZ: ∀p∈zs,e9 p) (hm:m≤10) (r1:ρ 45=some (.ref dk)) (r2:ρ 50=some (.ref q))
  {Q:List AV->a0->Prop} (hQ: ∀aj vs s,ae (bt s σ.n) aj vs->aj.length=m->(∀it∈aj,cj 2 zs it)->DS σ0 dk L lo s->Up lo σ s->Q vs s):
  bE (.aj (upTo 0 m)) (.name 54) (wK (callI (n+2)) []) (wE (callI (n+2)) (.call (.glob 57) [(.var 45),(.var 50)])) turns 0 [] ρ σ Q:=by
 refine bC ((upTo 0 m).map ([·])) (λk acc ρ s=>(ρ 45=some (.ref dk)/\ρ 50=some (.ref q))/\(DS σ0 dk L lo s/\Up lo σ s)/\ ∃aj,ae (bt s σ.n) aj acc/\aj.length=k/\ ∀it∈aj,cj 2 zs it) ?_ ?_ ?_ turns 0 [] ρ σ (Nat.zero_le _) (by rw [List.length_map,cF,aP];exact uP hm) ⟨⟨r1,r2⟩,⟨S,Nat.le_refl _,λ_ _ _ e=>e⟩, [], .nil,rfl,(λ_ h=>nomatch h)⟩
 ·intro k acc ρ s _;exact j5
 ·rintro k acc ρ s vs ⟨⟨e1,e2⟩,⟨S1,U1⟩,aj,h1,h2,h3⟩ hx P hP
  refine get_1 hx λx _=> ?_
  refine (?_:wE _ _ _ _ _)
  refine aa e1 (aa e2 (?_:callI _ _ _ _ _))
  exact DC S1 (Z.keep U1.k) hz (qi eZ) λit v s2 i1 i2 S2 U2=>hP _ _ _ ⟨⟨e1,e2⟩,⟨S2,U1.trans U2⟩,aj++ [it],ae.app (.cons (i1.mono U1.n) .nil) (h1.imp λ_ _ z=>z.keep λi o hi=>U2.k i o (Nat.le_trans S.le hi)),by rw [List.length_append,h2];rfl,gI h3 i2⟩
 ·rintro acc ρ s ⟨_,⟨S1,U1⟩,aj,h1,h2,h3⟩
  rw [List.length_map,cF] at h2
  exact hQ aj _ _ h1 h2 h3 S1 U1
theorem AG (S:DS σ0 dk L lo σ) (hm:m≤10) (r1:ρ 45=some (.ref dk))
  {Q:List AV->a0->Prop} (hQ: ∀(ocs:List Nat) s,ocs.length=m->(∀x∈ocs,x=97∨x=98)->DS σ0 dk L lo s->Up lo σ s->Q (ocs.map λx=>AV.int ((x:Nat):Int)) s):
  bE (.aj (upTo 0 m)) (.name 54) (wK (callI (n+2)) []) (wE (callI (n+2)) (.bin .add (.lit (.int 97)) (.call (.glob 48) [(.var 45),(.lit (.int 2))]))) turns 0 [] ρ σ Q:=by
 refine bC ((upTo 0 m).map ([·])) (λk acc ρ s=>ρ 45=some (.ref dk)/\(DS σ0 dk L lo s/\Up lo σ s)/\ ∃ocs:List Nat,acc=(ocs.map λx=>AV.int ((x:Nat):Int))/\ocs.length=k/\ ∀x∈ocs,x=97∨x=98) ?_ ?_ ?_ turns 0 [] ρ σ (Nat.zero_le _) (by rw [List.length_map,cF,aP];exact uP hm) ⟨r1,⟨S,Nat.le_refl _,λ_ _ _ e=>e⟩, [],rfl,rfl,(λ_ h=>nomatch h)⟩
 ·intro k acc ρ s _;exact j5
 ·rintro k acc ρ s vs ⟨e1,⟨S1,U1⟩,ocs,rfl,h2,h3⟩ hx P hP
  refine get_1 hx λx _=> ?_
  refine (?_:wE _ _ _ _ _)
  refine aa e1 (?_:callI _ _ _ _ _)
  exact S1.draw (many:=2) (by decide) λc s2 hc S2 U2=>hP _ _ _ ⟨e1,⟨S2,U1.trans U2⟩,ocs++ [97+c],by rw [List.map_append];rfl,by rw [List.length_append,h2];rfl,gI h3 (by exact Nb hc)⟩
 ·rintro acc ρ s ⟨_,⟨S1,U1⟩,ocs,rfl,h2,h3⟩
  rw [List.length_map,cF] at h2
  exact hQ ocs _ h2 h3 S1 U1
noncomputable def MQ:List IS:=match fH with|_:: .cY _ _ _ b::_=>b|_=> []
theorem tU {x:Nat} {ys:List AV} {o:AO} (h:σ.get x=some (.list ys)) {i:Nat} {xs:List AV} (e:σ.get i=some (.tup xs)):(σ.set x o).get i=some (.tup xs):=(av λz=>by rw [z,h] at e;cases e).trans e
theorem kQ.set {x:Nat} {ys:List AV} {o:AO} (h:σ.get x=some (.list ys)) {z:Kd×Nat} {v:AV} (e:kQ σ lo z v):kQ (σ.set x o) lo z v:=let ⟨r,h1,h2,h3⟩:=e;⟨r,h1,h2,tU h h3⟩
theorem wk {c:Nat} (hc:c<4): ∃kd:Kd, [AV.str 15, .str 15, .str 19, .str 16][c]?=some (.str kd.code):=match c,hc with
 |0,_=>⟨.arr,rfl⟩
 |1,_=>⟨.arr,rfl⟩
 |2,_=>⟨.str,rfl⟩
 |3,_=>⟨.az,rfl⟩
theorem zC {c2:Nat} (hc:c2<2) (kd:Kd): ∃z:Nat,e9 (kd,z)/\ ∀s r,s.get r=some (.dict [(.str 15, .int (2+((c2:Nat):Int))),(.str 19, .int 3)])->d7 (.ref r) 55 [.str kd.code, .int 1] s=some (.int (z:Nat),s):=by
 cases kd with
 |arr=>exact ⟨2+c2,⟨Nat.le_add_right _ _,by show 2+c2≤3;exact M9 hc⟩,λs r h=>aB h⟩
 |str=>exact ⟨3,rfl,λs r h=>aB h⟩
 |az=>exact ⟨1,rfl,λs r h=>aB h⟩
theorem AL (S:DS σ0 dk L lo σ) (h0:σ0.n≤q) (hq:σ.get q=some (.list [])) (hm:m≤10) (r1:ρ 45=some (.ref dk)) (r2:ρ 50=some (.ref q))
  {Q:KF} (hQ: ∀ρ' s zs vs,ρ' 45=some (.ref dk)->ρ' 50=some (.ref q)->s.get q=some (.list vs)->ae (kQ s lo) zs vs->zs.length=m->(∀p∈zs,e9 p)->DS σ0 dk L lo s->Q .next ρ' s):dm (.aj (upTo 0 m)) (.name 54) (wSs (callI (n+2)) MQ) turns 0 ρ σ Q:=by
 have lV:=Nat.le_trans S.dP h0
 refine cw (C:=callI (n+2)) ((upTo 0 m).map ([·])) (λk ρ s=>(ρ 45=some (.ref dk)/\ρ 50=some (.ref q))/\DS σ0 dk L lo s/\ ∃zs vs,s.get q=some (.list vs)/\ae (kQ s lo) zs vs/\zs.length=k/\ ∀p∈zs,e9 p) ?_ ?_ ?_ turns 0 ρ σ (Nat.zero_le _) (by rw [List.length_map,cF,aP];exact uP hm) ⟨⟨r1,r2⟩,S, [], [],hq, .nil,rfl,(λ_ h=>nomatch h)⟩
 ·intro k ρ s _;exact j5
 ·rintro k ρ s vs ⟨⟨e1,e2⟩,S1,zs,vs,ik,A,z1,z2⟩ hx P hP
  have UT:k<m:=by have:=(List.getElem?_eq_some_iff.mp hx).1;rwa [List.length_map,cF] at this
  refine get_1 hx λx _=> ?_
  have S2:=S1.new (.list [.str 15, .str 15, .str 19, .str 16])
  refine (?_:wSs _ _ _ _ _)
  refine aa e1 (?_:callI _ _ _ _ _)
  refine S2.draw (many:=4) (by decide) λc s3 hc S3 U3=> ?_
  obtain ⟨kd,aW⟩:=wk hc
  refine a9 ((cG (U3.k _ _ S1.le af) (Nat.lt_of_lt_of_le hc (Nat.le_of_ble_eq_true rfl))).trans aW) (aa e2 (aa e1 (?_:callI _ _ _ _ _)))
  refine S3.draw (many:=2) (by decide) λc2 s4 jR S4 U4=> ?_
  obtain ⟨z,yS,yT⟩:=zC jR kd
  have S5:=S4.new (.dict [(.str 15, .int (2+((c2:Nat):Int))),(.str 19, .int 3)])
  have S6:=S5.new (.tup [.str kd.code, .int (z:Nat)])
  have U:=(Up.new S1.D (.list [.str 15, .str 15, .str 19, .str 16])).trans (U3.trans (U4.trans ((Up.new S4.D (.dict [(.str 15, .int (2+((c2:Nat):Int))),(.str 19, .int 3)])).trans (Up.new S5.D (.tup [.str kd.code, .int (z:Nat)])))))
  have h3:=((Up.new S1.D (.list [.str 15, .str 15, .str 19, .str 16])).trans U3).k _ _ lV ik
  have h6:=U.k _ _ lV ik
  have hl:=A.len
  refine hJ ⟨_,af⟩ af (a9 (yT _ _ af) (bL ⟨_,h3⟩ h6 (a9 (cX h6 (by unfold aw;exact KN hm z1 UT hl)) ?_)))
  exact hP _ _ ⟨⟨e1,e2⟩,S6.bo h6 h0,zs++ [(kd,z)],_,aF,ae.app (.cons ⟨_,S5.le,rfl,tU h6 af⟩ .nil) (A.imp λ_ _ y=>(y.keep U.k).set h6),by rw [List.length_append,z1];rfl,gI z2 yS⟩
 ·rintro ρ2 s2 ⟨⟨e1,e2⟩,S1,zs,vs,ik,A,z1,z2⟩
  rw [List.length_map,cF] at z1
  exact hQ _ _ zs vs e1 e2 ik A z1 z2 S1
end
section
variable {σ σ' σ0:a0} {lo n dk L q B:Nat} {zs:List (Kd×Nat)} {ρ:Loc}
theorem dz.mono {bN:Nat} (h:bN≤lo) {bd:Bd} {v:AV} (x:dz σ lo bd v):dz σ bN bd v:=
 let ⟨r,T,h1,h2,h3,h4,h5,h6⟩:=x
 ⟨r,T,Nat.le_trans h h1,Nat.le_trans h h2,h3,h4,h5,λz=>let ⟨vs,q1,q2⟩:=h6 z;⟨vs,q1,q2.imp λ_ _ z=>z.mono h⟩⟩
theorem lh {k:Nat} (h:k≤4000):fk .range [.int (k:Nat)] σ=some (.aj (upTo 0 k)):=Ie ⟨Int.natCast_nonneg _,by exact Oc h⟩
structure BI (σ0:a0) (dk L lo B q:Nat) (zs:List (Kd×Nat)) (gL:List AV) (k:Nat) (ρ:Loc) (s:a0):Prop where
 nF:ρ 45=some (.ref dk)
 sf:ρ 50=some (.ref q)
 kT:ρ 56=some (.ref B)
 S:DS σ0 dk L lo s
 b: ∃bds vs,s.get B=some (.list vs)/\ae (dz s (B+1)) bds vs/\bds.map bH=zs.take k/\ ∀b∈bds,dU 2 zs b
 hq:s.get q=some (.list gL)
 hz:ae (kQ s lo) zs gL
section
variable {gL:List AV} {k:Nat} {s s2:a0} {C:aD} {K:KF}
theorem BI.app {bd:Bd} {v:AV} {ρ':Loc} (I:BI σ0 dk L lo B q zs gL k ρ s) (h0:σ0.n≤B) (uj:q≠B) (lV:lo≤q) (D5:zs.length≤5) (U:Up lo s s2) (S2:DS σ0 dk L lo s2) (hb:dz s2 (B+1) bd v) (nG:zs[k]?=some (bH bd)) (hS:dU 2 zs bd)
  (hρ:ρ' 45=some (.ref dk)/\ρ' 50=some (.ref q)/\ρ' 56=some (.ref B)) {Q:AV->a0->Prop} (h: ∀s',BI σ0 dk L lo B q zs gL (k+1) ρ' s'->Q .none s'):wM C s (.ref B) 10 [v] s2 Q:=by
 obtain ⟨bds,vs,b1,b2,b3,b4⟩:=I.b
 have Py:=Nat.le_trans S2.dP h0
 have D6:=U.k _ _ Py b1
 have IY:k<zs.length:=(List.getElem?_eq_some_iff.mp nG).1
 have hl:=b2.len
 have ug:=congrArg List.length b3
 rw [List.length_map,List.length_take] at ug
 have setk: ∀{o:AO} i o',B+1≤i->s2.get i=some o'->(s2.set B o).get i=some o':=λi o' hi e=>(av (Nat.ne_of_gt hi)).trans e
 refine bL ⟨_,b1⟩ D6 (jh (cX D6 (by unfold aw;exact Ms D5 hl ug)) (h _ ⟨hρ.1,hρ.2.1,hρ.2.2,S2.bo D6 h0,⟨bds++ [bd],_,aF, ?_, ?_,gI b4 hS⟩,(av uj).trans (U.k _ _ lV I.hq),I.hz.imp λ_ _ y=>(y.keep U.k).set D6⟩))
 ·exact ae.app (.cons (hb.keep setk) .nil) (b2.imp λ_ _ y=>(y.keep λi o hi=>U.k i o (Nat.le_trans (Nat.le_succ_of_le Py) hi)).keep setk)
 ·rw [List.take_add_one,nG,List.map_append,b3];rfl
noncomputable def HO:List IS:=match fH with|_::_::_:: .cY _ _ _ b::_=>b|_=> []
theorem AW {kd:Kd} {z:Nat} (I:BI σ0 dk L lo B q zs gL k ρ s) (h0:σ0.n≤B) (uj:q≠B) (lV:lo≤q) (hz:0<zs.length/\zs.length≤5) (eZ: ∀p∈zs,e9 p) (nG:zs[k]?=some (kd,z))
  (hK: ∀ρ' s',BI σ0 dk L lo B q zs gL (k+1) ρ' s'->K .next ρ' s'):wSs (callI (n+2)) HO ((ρ.put 13 (.str kd.code)).put 52 (.int (z:Nat))) s K:=by
 obtain ⟨y1,y2,y3⟩:=qi eZ _ _ _ nG
 have Pz:=eZ _ (List.mem_of_getElem? nG)
 have J9:B+1≤s.n:=let ⟨_,_,h,_⟩:=I.b;I.S.D _ _ h
 by_cases aW:kd= .str
 ·subst aW
  refine aa I.kT (a9 (lh (Nat.le_trans y1 (Nat.le_of_ble_eq_true rfl))) (?_:bE _ _ _ _ _ _ _ _ _ _))
  refine AG (n:=n) I.S (Nat.le_trans y1 (Nat.le_of_ble_eq_true rfl)) (by exact I.nF) λocs s1 o2 o3 S1 U1=> ?_
  have S3:=S1.new (.list (ocs.map λx=>AV.int ((x:Nat):Int)))
  have g4:=Gr.new S3.D (.list [.str Kd.str.code, .ref s1.n, .int 3])
  have hT:=Nat.le_trans J9 U1.n
  have hs:bH ⟨.str,ocs, [],3⟩=(.str,z):=congrArg (Prod.mk Kd.str) o2
  exact I.app (ρ':=(ρ.put 13 (.str Kd.str.code)).put 52 (.int (z:Nat))) h0 uj lV hz.2 (U1.trans ((Up.new S1.D _).trans (.of g4))) (S3.ext g4) (bd:=⟨.str,ocs, [],3⟩) ⟨_,s1.n,Nat.le_succ_of_le hT,hT,rfl,af,λ_=>g4.ext _ _ af,λh=>absurd rfl h⟩ (hs▸nG) ⟨(λ_ h=>nomatch h),λ_=>⟨rfl,o3⟩,hs▸Pz,Nat.le_of_ble_eq_true rfl,Nat.le_refl _⟩ ⟨I.nF,I.sf,I.kT⟩ λs' J=>hK _ _ J
 ·refine aG (decide_eq_false (iY kd aW)) (aa I.kT (a9 (lh (Nat.le_trans y1 (Nat.le_of_ble_eq_true rfl))) (?_:bE _ _ _ _ _ _ _ _ _ _)))
  refine qF (n:=n) I.S ⟨gL,lV,I.hq,I.hz⟩ hz eZ (Nat.le_trans y1 (Nat.le_of_ble_eq_true rfl)) (by exact I.nF) (by exact I.sf) λaj ivs s1 o1 o2 o3 S1 U1=> ?_
  have S2:=S1.new (.list ivs)
  refine aa I.nF (?_:callI _ _ _ _ _)
  refine S2.draw (many:=2) (by decide) λc s3 hc S3 U3=> ?_
  have g5:=Gr.new S3.D (.list [.str kd.code, .ref s1.n, .int ((3:Int)-((c:Nat):Int))])
  have hT:=Nat.le_trans J9 U1.n
  have U13:=(Up.new S1.D (.list ivs)).trans U3
  have hs:bH ⟨kd, [],aj,3-c⟩=(kd,z):=by
   cases kd with
   |str=>exact absurd rfl aW
   |arr=>exact congrArg (Prod.mk _) o2
   |az=>exact congrArg (Prod.mk _) o2
  have hI:ae (bt (s3.new (.list [.str kd.code, .ref s1.n, .int ((3:Int)-((c:Nat):Int))])) (B+1)) aj ivs:=o1.imp λ_ _ y=>((y.mono J9).keep λi o hi e=>g5.ext _ _ (U13.k i o (Nat.le_trans (Nat.le_succ_of_le (Nat.le_trans S1.dP h0)) hi) e))
  have e3:AV.int ((3:Int)-((c:Nat):Int))= .int ((3-c:Nat):Int):=by rw [Int.ofNat_sub (Nat.le_of_lt (Nat.lt_of_lt_of_le hc (Nat.le_of_ble_eq_true rfl)))];rfl
  exact I.app (ρ':=(ρ.put 13 (.str kd.code)).put 52 (.int (z:Nat))) h0 uj lV hz.2 (U1.trans (U13.trans (.of g5))) (S3.ext g5) (bd:=⟨kd, [],aj,3-c⟩) (v:= .ref s3.n) ⟨_,s1.n,Nat.le_trans hT U13.n,hT,rfl,af.trans (congrArg (λv=>some (AO.list [.str kd.code, .ref s1.n,v])) e3),λh=>absurd h aW,λ_=>⟨ivs,g5.ext _ _ (U3.k _ _ (Nat.le_trans (Nat.le_succ_of_le (Nat.le_trans S1.dP h0)) hT) af),hI⟩⟩ (hs▸nG) ⟨o3,λh=>absurd h aW,hs▸Pz,by show 2≤3-c;exact NF hc,by show 3-c≤3;exact M0⟩ ⟨I.nF,I.sf,I.kT⟩ λs' J=>hK _ _ J
end
theorem x9 {gL:List AV} (S:DS σ0 dk L lo σ) (h0:σ0.n≤B) (hB:σ.get B=some (.list [])) (hq:σ.get q=some (.list gL)) (hA:ae (kQ σ lo) zs gL) (lV:lo≤q) (uj:q≠B) (hz:0<zs.length/\zs.length≤5) (eZ: ∀p∈zs,e9 p)
  (r1:ρ 45=some (.ref dk)) (r2:ρ 50=some (.ref q)) (r3:ρ 56=some (.ref B)) {Q:KF} (hQ: ∀ρ' s,BI σ0 dk L lo B q zs gL zs.length ρ' s->Q .next ρ' s):dm (.lst q) (.tup [(.name 13),(.name 52)]) (wSs (callI (n+2)) HO) turns 0 ρ σ Q:=by
 have PA:=hA.len
 refine cw (C:=callI (n+2)) (gL.map ([·])) (BI σ0 dk L lo B q zs gL) ?_ ?_ ?_ turns 0 ρ σ (Nat.zero_le _) (by rw [List.length_map,aP];exact Lz hz PA) ⟨r1,r2,r3,S,⟨[], [],hB, .nil,rfl,(λ_ h=>nomatch h)⟩,hq,hA⟩
 ·intro k ρ s I;exact cq I.hq
 ·intro k ρ s lU I hx P hP
  refine get_1 hx λv hv=> ?_
  obtain ⟨⟨kd,z⟩,nG,r,q1,rfl,q2⟩:=I.hz.get hv
  refine a9 (cQ q2) ?_
  exact AW I h0 uj lV hz eZ nG λρ' s' J=>hP _ _ J
 ·intro ρ2 s2 I
  rw [List.length_map,←PA] at I
  exact hQ _ _ I
theorem AI (D:aR σ) (K:DK σ dk L) (hd:dk<lo) (hl:L<lo) (dP:lo≤σ.n) {Q:AV->a0->Prop} (hQ: ∀sh d σ',fN σ' lo sh d->WF sh->sh.bs.length≤5->(∀b∈sh.bs,dU 2 (sh.bs.map bH) b)->(∀it∈sh.st,cj 2 (sh.bs.map bH) it)->DK σ' dk L->Gr (KL dk L) σ σ'->Q (.ref d) σ'):callI (n+3) 12 [.ref dk] σ Q:=by
 refine aC (bs:= [(45, .ref dk)]) rfl rfl ?_
 have S0:DS σ dk L lo σ:=⟨D,K,hd,hl,dP,Gr.refl D⟩
 have S1:=S0.new (.list [])
 intro R hr hn
 refine (?_:callI _ _ _ _ _)
 refine S1.draw (many:=3) (by decide) λc σ2 hc S2 U2=> ?_
 refine a9 (lh (k:=2+c) (by exact LM hc)) ?_
 refine AL (n:=n) S2 (Nat.le_refl _) (U2.k _ _ dP af) (by exact LW hc) (by rfl) (by rfl) λρ3 σ3 zs vs nF sf ik A hz eZ S3=> ?_
 have S4:=S3.new (.list [])
 have g4:=Gr.new S3.D (.list [])
 have D5:0<zs.length/\zs.length≤5:=by exact Nh hc hz
 refine aa sf (a9 (cI (g4.ext _ _ ik)) (?_:dm _ _ _ _ _ _ _ _))
 refine x9 (n:=n) (B:=σ3.n) S4 S3.g.n af (g4.ext _ _ ik) (A.imp λ_ _ y=>y.keep g4.bh) dP (Nat.ne_of_lt (S3.D _ _ ik)) D5 eZ (by exact nF) (by exact sf) (by rfl) λρ5 σ5 I=> ?_
 obtain ⟨bds,bv,b2,b1,b3,b4⟩:=I.b
 rw [List.take_length] at b3
 have dE:=congrArg List.length b3
 rw [List.length_map] at dE
 refine aa I.kT (aa I.nF (?_:callI _ _ _ _ _))
 refine I.S.draw (many:=2) (by decide) λc2 σ6 jR S6 U6=> ?_
 refine a9 (lh (k:=2+c2) (by exact Ou jR)) ?_
 refine qF (n:=n) S6 (qH.keep U6.k ⟨vs,dP,I.hq,I.hz⟩) D5 eZ (by exact NG jR) (by exact I.nF) (by exact I.sf) λaj ivs σ7 o1 o2 o3 S7 U7=> ?_
 have g8:=Gr.new S7.D (.list ivs)
 have g9:=Gr.new g8.ar (.dict [(.str 56, .ref σ3.n),(.str 58, .ref σ7.n)])
 have U:Up lo σ5 _:=U6.trans (U7.trans ((Up.of g8).trans (.of g9)))
 have U79:Up lo σ7 _:=(Up.of g8).trans (.of g9)
 refine hr _ _ _ (hQ ⟨bds,aj⟩ _ _ ⟨σ3.n,bv,σ7.n,ivs,Nat.le_succ_of_le S7.le,S3.le,S7.le,af,U.k _ _ S3.le b2,b1.imp λ_ _ y=>(y.mono (Nat.le_succ_of_le S3.le)).keep U.k,g9.ext _ _ af,o1.imp λ_ _ y=>(y.mono S6.le).keep U79.k⟩ ⟨?_, ?_, ?_, ?_⟩ ?_ ?_ ?_ ((S7.ext g8).ext g9).K (((S7.ext g8).ext g9).end_ D))
 ·show 2≤bds.length/\bds.length≤8;exact N3 hc hz dE
 ·intro b hb;exact (b3▸b4 b hb:dU 2 (bds.map bH) b).up.ok
 ·intro it hi;exact (b3▸o3 it hi:cj 2 (bds.map bH) it).up.ok
 ·show 2≤aj.length/\aj.length≤3;exact KA jR o2
 ·show bds.length≤5;exact Lu hc hz dE
 ·exact b3▸b4
 ·exact b3▸o3
end
section
variable {σ σ':a0} {lo:Nat}
theorem EU (it:It):(itV it).length≤6:=by cases it<;>simp [itV]
theorem gw {d B S:Nat} (h:σ.get d=some (.dict [(.str 56, .ref B),(.str 58, .ref S)])):bT (.ref d) (.str 56) σ=some (.ref B):=aB h
theorem qA {d B S:Nat} (h:σ.get d=some (.dict [(.str 56, .ref B),(.str 58, .ref S)])):bT (.ref d) (.str 58) σ=some (.ref S):=aB h
theorem kZ {r:Nat} {xs:List AV} (h:σ.get r=some (.list xs)) (hc:xs.length≤aw):fu 60 [.ref r] σ=some (.ref σ.n,σ.new (.list xs)):=(aB h).trans (if_pos hc)
theorem qj {C:aD} {e:IE} {P:Loc->Prop} (hP: ∀ρ v,P ρ->P (ρ.put 31 v)) (hE: ∀(ρ:Loc) (s:a0) (r:Nat) (xs:List AV),P ρ->s.get r=some (.list xs)->xs.length≤aw-> ∀Q:AV->a0->Prop,Q (.ref s.n) (s.new (.list xs))->wE C e (ρ.put 31 (.ref r)) s Q)
  {ρ:Loc} (h0:P ρ) (D:aR σ) {T:Nat} {aj:List It} {vs:List AV} (hT:σ.get T=some (.list vs)) (A:ae (bt σ lo) aj vs) (hl:aj.length≤100) {Q:List AV->a0->Prop} (hQ: ∀ws s,ae (bt s σ.n) aj ws->Gr no σ s->Q ws s):
  bE (.lst T) (.name 31) (wK C []) (wE C e) turns 0 [] ρ σ Q:=by
 have hlen:=A.len
 refine bC (vs.map ([·])) (λk acc ρ s=>P ρ/\ae (bt s σ.n) (aj.take k) acc/\Gr no σ s) ?_ ?_ ?_ turns 0 [] ρ σ (Nat.zero_le _) (by rw [List.length_map,aP];exact O4 hl hlen) ⟨h0, .nil,Gr.refl D⟩
 ·rintro k acc ρ s ⟨_,_,g⟩;exact cq (g.ext _ _ hT)
 ·rintro k acc ρ s ws ⟨p,a,g⟩ hx K hK
  refine get_1 hx λv hv=> ?_
  obtain ⟨it,hit,r,h1,rfl,h3⟩:=A.get hv
  have g2:=Gr.new g.ar (.list (itV it))
  refine hE ρ s r _ p (g.ext _ _ h3) (by have:=EU it;unfold aw;exact Lp this) _ (hK _ _ _ ⟨hP _ _ p, ?_,g.then g2⟩)
  rw [List.take_add_one,hit]
  exact ae.app (.cons ⟨s.n,g.n,rfl,af⟩ .nil) (a.imp λ_ _ y=>y.keep g2.bh)
 ·rintro acc ρ s ⟨_,a,g⟩
  rw [List.length_map,←hlen,List.take_length] at a
  exact hQ _ _ a g
structure CI (σ:a0) (d:Nat) (bs:List Bd) (k:Nat) (ρ:Loc) (s:a0):Prop where
 kT:ρ 56=some (.ref σ.n)
 Ja:ρ 59=some (.ref d)
 g:Gr no σ s
 b: ∃vs,s.get σ.n=some (.list vs)/\ae (dz s (σ.n+1)) (bs.take k) vs
section
variable {d k:Nat} {bs:List Bd} {ρ:Loc} {s s2:a0} {C:aD} {K:KF} {bd:Bd}
theorem CI.app {ρ':Loc} {ys:List AV} (I:CI σ d bs k ρ s) (D:aR σ) (hl:bs.length≤8) (aU:bs[k]?=some bd) (g2:Gr no s s2) (y1:bd.kd= .str->ys=(bd.ocs.map λx=>AV.int ((x:Nat):Int))) (y2:bd.kd≠ .str->ae (bt s2 (σ.n+1)) bd.aj ys) (hρ:ρ' 56=some (.ref σ.n)/\ρ' 59=some (.ref d))
  {Q:AV->a0->Prop} (h: ∀s',CI σ d bs (k+1) ρ' s'->Q .none s'):wM C s (.ref σ.n) 10 [.ref (s2.new (.list ys)).n] ((s2.new (.list ys)).new (.list [.str bd.kd.code, .ref s2.n, .int (bd.ac:Nat)])) Q:=by
 obtain ⟨vs,ik,A⟩:=I.b
 have g3:=Gr.new g2.ar (.list ys)
 have g4:=Gr.new g3.ar (.list [.str bd.kd.code, .ref s2.n, .int (bd.ac:Nat)])
 have G:=g2.then (g3.then g4)
 have Jb:=G.ext _ _ ik
 have hk:k<bs.length:=(List.getElem?_eq_some_iff.mp aU).1
 have hlen:=A.len
 rw [List.length_take] at hlen
 have kk: ∀{o:AO} i o',σ.n+1≤i->((s2.new (.list ys)).new (.list [.str bd.kd.code, .ref s2.n, .int (bd.ac:Nat)])).get i=some o'->(((s2.new (.list ys)).new (.list [.str bd.kd.code, .ref s2.n, .int (bd.ac:Nat)])).set σ.n o).get i=some o':=λi o' hi e=>(av (Nat.ne_of_gt hi)).trans e
 have D7:σ.n+1≤s2.n:=Nat.le_trans (I.g.ar _ _ ik) g2.n
 refine bL ⟨_,ik⟩ Jb (jh (cX Jb (by unfold aw;exact MU hl hlen)) (h _ ⟨hρ.1,hρ.2,Gr.bQ D (I.g.then G) (Nat.le_refl _) Jb,_,aF, ?_⟩))
 rw [List.take_add_one,aU]
 refine ae.app (.cons ?_ .nil) (A.imp λ_ _ y=>(y.keep G.bh).keep kk)
 exact dz.keep kk ⟨_,s2.n,Nat.le_succ_of_le D7,D7,rfl,af,λz=>(g4.ext _ _ af).trans (congrArg (λl=>some (AO.list l)) (y1 z)),λz=>⟨ys,g4.ext _ _ af,(y2 z).imp λ_ _ y=>(y.keep g3.bh).keep g4.bh⟩⟩
noncomputable def RT:List IS:=match iI with|_:: .cY _ _ _ b::_=>b|_=> []
theorem A9 {n T:Nat} (I:CI σ d bs k ρ s) (D:aR σ) (hl:bs.length≤8) (aU:bs[k]?=some bd) (bok:bk bs bd) (b5:bd.kd= .str->σ.get T=some (.list (bd.ocs.map λx=>AV.int ((x:Nat):Int)))) (b6:bd.kd≠ .str-> ∃vs,σ.get T=some (.list vs)/\ae (bt σ lo) bd.aj vs)
  (hK: ∀ρ' s',CI σ d bs (k+1) ρ' s'->K .next ρ' s'):wSs (callI n) RT (((ρ.put 13 (.str bd.kd.code)).put 39 (.ref T)).put 21 (.int (bd.ac:Nat))) s K:=by
 have uk:σ.n+1≤s.n:=let ⟨_,h,_⟩:=I.b;I.g.ar _ _ h
 by_cases aW:bd.kd= .str
 ·have hT:=I.g.ext _ _ (b5 aW)
  obtain ⟨_,o1,_⟩:=bok.str aW
  refine aa I.kT (a9 (cI hT) (?_:bE _ _ _ _ _ _ _ _ _ _))
  refine bC ((bd.ocs.map λx=>AV.int ((x:Nat):Int)).map ([·])) (λk acc ρ s'=>s'=s/\acc=(bd.ocs.map λx=>AV.int ((x:Nat):Int)).take k/\ρ 13=some (.str bd.kd.code)) ?_ ?_ ?_ turns 0 [] _ s (Nat.zero_le _) (by rw [List.length_map,List.length_map,aP];exact LL o1) ⟨rfl,rfl,rfl⟩
  ·rintro k acc ρ s' ⟨rfl,_⟩;exact cq hT
  ·rintro k acc ρ s' ws ⟨rfl,rfl,PB⟩ hx P hP
   refine get_1 hx λx yL=> ?_
   refine (?_:wE _ _ _ _ _)
   refine aa PB (aG (by rw [aW];rfl:(!decide (bd.kd.code=19))=false) ?_)
   exact hP _ _ _ ⟨rfl,by rw [List.take_add_one,yL];rfl,PB⟩
  ·rintro acc ρ' s' ⟨rfl,rfl,_⟩
   rw [List.length_map,List.take_length]
   exact I.app (ρ':=((ρ.put 13 (.str bd.kd.code)).put 39 (.ref T)).put 21 (.int (bd.ac:Nat))) D hl aU (Gr.refl I.g.ar) (λ_=>rfl) (λz=>absurd aW z) ⟨I.kT,I.Ja⟩ λs' J=>hK _ _ J
 ·obtain ⟨gL,c1,c2⟩:=b6 aW
  have hT:=I.g.ext _ _ c1
  refine aa I.kT (a9 (cI hT) (?_:bE _ _ _ _ _ _ _ _ _ _))
  refine qj (P:=λρ=>ρ 13=some (.str bd.kd.code)) (λρ v h=>h) (λρ s r xs h1 h2 h3 Q hQ=>by
   refine aa h1 (bb (nS bd.kd aW) (a9 (kZ h2 h3) ?_))
   exact hQ) (by rfl) I.g.ar hT (c2.imp λ_ _ y=>y.keep I.g.bh) (Nat.le_trans (mE bok) (Nat.le_of_ble_eq_true rfl)) λws s' A' g'=> ?_
  exact I.app (ρ':=((ρ.put 13 (.str bd.kd.code)).put 39 (.ref T)).put 21 (.int (bd.ac:Nat))) D hl aU g' (λz=>absurd z aW) (λ_=>A'.imp λ_ _ y=>y.mono uk) ⟨I.kT,I.Ja⟩ λs' J=>hK _ _ J
end
theorem xX {n d:Nat} {sh:Sh} (D:aR σ) (h:fN σ lo sh d) (W:WF sh) {Q:AV->a0->Prop} (hQ: ∀d' σ',fN σ' σ.n sh d'->Gr no σ σ'->Q (.ref d') σ'):callI (n+1) 13 [.ref d] σ Q:=by
 obtain ⟨B,bv,S,sv,h1,h2,h3,h4,h5,h6,h7,h8⟩:=h
 have dE:=h6.len
 have yQ:=h8.len
 have w1:=W.nb
 have w2:=W.ns
 refine aC (bs:= [(59, .ref d)]) rfl rfl ?_
 have g1:=Gr.new D (.list [])
 intro R hr hn
 refine a9 (gw (g1.ext _ _ h4)) (a9 (cI (g1.ext _ _ h5)) (?_:dm _ _ _ _ _ _ _ _))
 refine cw (C:=callI n) (bv.map ([·])) (CI σ d sh.bs) ?_ ?_ ?_ turns 0 _ _ (Nat.zero_le _) (by rw [List.length_map,aP];exact Lb dE w1) ⟨rfl,rfl,g1, [],af, .nil⟩
 ·intro k ρ s I;exact cq (I.g.ext _ _ h5)
 ·intro k ρ s ws I hx P hP
  refine get_1 hx λv hv=> ?_
  obtain ⟨bd,aU,r,T,b1,b2,rfl,b4,b5,b6⟩:=h6.get hv
  refine a9 (gy (I.g.ext _ _ b4)) ?_
  exact A9 I D w1.2 aU (W.ok bd (List.mem_of_getElem? aU)) b5 b6 λρ' s' J=>hP _ _ J
 ·intro ρ2 σ2 I
  obtain ⟨vs,ik,A⟩:=I.b
  rw [List.length_map,←dE,List.take_length] at A
  have g:=I.g
  refine aa I.kT (aa I.Ja (a9 (qA (g.ext _ _ h4)) (a9 (cI (g.ext _ _ h7)) (?_:bE _ _ _ _ _ _ _ _ _ _))))
  refine qj (P:=λρ=>True) (λρ v h=>trivial) (λρ s r xs h1 h2 h3 Q hQ=>by
   refine a9 (kZ h2 h3) ?_
   exact hQ) trivial g.ar (g.ext _ _ h7) (h8.imp λ_ _ y=>y.keep g.bh) (by exact Od w2) λws s' A' g'=> ?_
  have g8:=Gr.new g'.ar (.list ws)
  have g9:=Gr.new g8.ar (.dict [(.str 56, .ref σ.n),(.str 58, .ref s'.n)])
  have hs:σ.n≤s'.n:=Nat.le_trans g.n g'.n
  exact hr _ _ _ (hQ _ _ ⟨σ.n,vs,s'.n,ws,Nat.le_succ_of_le hs,Nat.le_refl _,hs,af,g9.ext _ _ (g8.ext _ _ (g'.ext _ _ ik)),A.imp λ_ _ y=>(y.mono (Nat.le_succ _)).keep (Gr.bh (g'.then (g8.then g9))),g9.ext _ _ af,A'.imp λ_ _ y=>((y.mono g.n).keep g8.bh).keep g9.bh⟩ (g.then (g'.then (g8.then g9))))
end
noncomputable def cls (l:List AV):Nat:=match l with
 | []=>0
 |v::r=>match v with
  | .ref _=>1
  | .int _=>2
  | .str _=>match r with
   | []=>5
   |w::_=>match w with
    | .ref _=>3
    | .int _=>4
    |_=>5
  |_=>5
theorem eQ (it:It):cls (itV it)=4:=by cases it<;>rfl
theorem mY {a b:Nat} {c:Int}:cls [.str a, .ref b, .int c]=3:=rfl
theorem nZ (l:List Nat):cls (l.map λx=>AV.int ((x:Nat):Int))=0∨cls (l.map λx=>AV.int ((x:Nat):Int))=2:=by
 cases l with
 |nil=>exact .inl rfl
 |cons _ _=>exact .inr rfl
theorem cz {σ:a0} {x y:Nat} {a b:List AV} (h:σ.get x=some (.list a)) (h':σ.get y=some (.list b)) (hc:cls a≠cls b):x≠y:=λe=>by
 cases (e▸h).symm.trans h'
 exact hc rfl
theorem fg {R:α->AV->Prop} (hR: ∀a v,R a v-> ∃r,v= .ref r): ∀{l:List α} {m:List AV},ae R l m->cls m=0∨cls m=1
 |_,_, .nil=> .inl rfl
 |_,_, .cons h _=>by obtain ⟨r,rfl⟩:=hR _ _ h;exact .inr rfl
structure dh (σ:a0) (lo pk:Nat) (zs:List (Kd×Nat)) (m d:Nat):Prop where
 ex: ∃sh,fN σ lo sh d/\sh.bs.map bH=zs/\(∀b∈sh.bs,dU pk zs b)/\(∀it∈sh.st,cj pk zs it)/\sh.st.length=m
section
variable {σ σ':a0} {lo pk:Nat} {zs:List (Kd×Nat)} {m d:Nat}
theorem bt.ju {it:It} {v:AV} (h:bt σ lo it v): ∃r,v= .ref r:=by obtain ⟨r,_,h,_⟩:=h;exact ⟨r,h⟩
theorem dz.ju {b:Bd} {v:AV} (h:dz σ lo b v): ∃r,v= .ref r:=by obtain ⟨r,T,_,_,h,_⟩:=h;exact ⟨r,h⟩
theorem dh.up (h:dh σ lo 2 zs m d):dh σ lo 3 zs m d:=by
 obtain ⟨sh,h1,h2,h3,h4,h5⟩:=h;exact ⟨sh,h1,h2,λb hb=>(h3 b hb).up,λit hi=>(h4 it hi).up,h5⟩
theorem dh.keep (k: ∀i o,lo≤i->σ.get i=some o->σ'.get i=some o) (h:dh σ lo pk zs m d):dh σ' lo pk zs m d:=by
 obtain ⟨sh,h1,h2⟩:=h;exact ⟨sh,h1.keep k,h2⟩
theorem dh.chg {x:Nat} {ws:List AV} (k: ∀i o,i≠x->σ.get i=some o->σ'.get i=some o) (hx:σ.get x=some (.list ws)) (hc:2≤cls ws)
  (hI: ∀it v,bt σ lo it v->cj pk zs it-> ∃fQ,bt σ' lo fQ v/\cj pk zs fQ) (hB: ∀bd v,dz σ lo bd v->dU pk zs bd-> ∃cP,dz σ' lo cP v/\bH cP=bH bd/\dU pk zs cP) (h:dh σ lo pk zs m d):dh σ' lo pk zs m d:=by
 obtain ⟨sh,⟨B,bv,S,sv,h1,h2,h3,h4,h5,h6,h7,h8⟩,e1,e2,e3,e4⟩:=h
 obtain ⟨um,b1,b2⟩:=h6.chg (R':=dz σ' lo) (P:=dU pk zs) (Q:=λa a'=>bH a'=bH a/\dU pk zs a') hB e2
 obtain ⟨st',s1,s2⟩:=h8.chg (R':=bt σ' lo) (P:=cj pk zs) (Q:=λa a'=>cj pk zs a') hI e3
 have c1:=fg (λ_ _ h=>dz.ju h) h6
 have c2:=fg (λ_ _ h=>bt.ju h) h8
 refine ⟨⟨um,st'⟩,⟨B,bv,S,sv,h1,h2,h3,k _ _ (λe=>by rw [e,hx] at h4;cases h4) h4,k _ _ (cz h5 hx (by exact BJ hc c1)) h5,b1,k _ _ (cz h7 hx (by exact BJ hc c2)) h7,s1⟩, ?_, ?_, ?_, ?_⟩
 ·rw [←e1];exact b2.map_eq λa b h=>h.1
 ·exact b2.right λa b h=>h.2
 ·exact ae.right (P:=cj pk zs) (λa b h=>h) s2
 ·rw [←e4];exact s2.len.symm
theorem Kd.code_inj {a b:Kd} (h:a.code=b.code):a=b:=by cases a<;>cases b<;>first|rfl|cases h
theorem dh.item {r:Nat} {it fQ:It} (hr:lo≤r) (hg:σ.get r=some (.list (itV it))) (kU:cj pk zs fQ) (h:dh σ lo pk zs m d):dh (σ.set r (.list (itV fQ))) lo pk zs m d:=by
 have k: ∀i o,i≠r->σ.get i=some o->(σ.set r (.list (itV fQ))).get i=some o:=λi o hi e=>(av hi).trans e
 have hI: ∀D8 v,bt σ lo D8 v->cj pk zs D8-> ∃Jc,bt (σ.set r (.list (itV fQ))) lo Jc v/\cj pk zs Jc:=λD8 v h hz=>by
  obtain ⟨q,h1,h2,h3⟩:=h
  by_cases hq:q=r
  ·subst hq;exact ⟨fQ,⟨q,h1,h2,aF⟩,kU⟩
  ·exact ⟨D8,⟨q,h1,h2,k _ _ hq h3⟩,hz⟩
 refine h.chg k hg (by rw [eQ];decide) hI λbd v hb hz=> ?_
 obtain ⟨q,T1,b1,b2,rfl,b4,b5,b6⟩:=hb
 have ip:=k _ _ (cz b4 hg (by rw [eQ];exact (by decide:(3:Nat)≠4))) b4
 by_cases hk:bd.kd= .str
 ·exact ⟨bd,⟨q,T1,b1,b2,rfl,ip,λz=>k _ _ (cz (b5 z) hg (by have:=nZ bd.ocs;rw [eQ];exact MH this)) (b5 z),λz=>absurd hk z⟩,rfl,hz⟩
 ·obtain ⟨vs,q1,q2⟩:=b6 hk
  obtain ⟨Jd,s1,s2⟩:=q2.chg (R':=bt (σ.set r (.list (itV fQ))) lo) (P:=cj pk zs) (Q:=λa a'=>cj pk zs a') hI hz.aj
  have D9:bH {bd with aj:=Jd}=bH bd:=by
   have:=s2.len
   obtain ⟨kd,_,_,_⟩:=bd
   cases kd with
   |str=>exact absurd rfl hk
   |arr=>exact congrArg (Prod.mk _) this.symm
   |az=>exact congrArg (Prod.mk _) this.symm
  refine ⟨{bd with aj:=Jd},⟨q,T1,b1,b2,rfl,ip,λz=>absurd z hk,λz=>⟨vs,k _ _ (cz q1 hg (by have:=fg (λ_ _ h=>bt.ju h) q2;rw [eQ];exact BH this)) q1,s1⟩⟩,D9,ae.right (P:=cj pk zs) (λa b h=>h) s2,λz=>absurd z hk,by rw [D9];exact hz.z,hz.ac⟩
theorem dh.acc {r T ac ac':Nat} {kd:Kd} (hr:lo≤r) (hg:σ.get r=some (.list [.str kd.code, .ref T, .int (ac:Nat)])) (kU:2≤ac'/\ac'≤3) (h:dh σ lo pk zs m d):dh (σ.set r (.list [.str kd.code, .ref T, .int (ac':Nat)])) lo pk zs m d:=by
 have k: ∀i o,i≠r->σ.get i=some o->(σ.set r (.list [.str kd.code, .ref T, .int (ac':Nat)])).get i=some o:=λi o hi e=>(av hi).trans e
 have hI: ∀it v,bt σ lo it v->bt (σ.set r (.list [.str kd.code, .ref T, .int (ac':Nat)])) lo it v:=λit v h=>by
  obtain ⟨q,h1,h2,h3⟩:=h
  exact ⟨q,h1,h2,k _ _ (cz h3 hg (by rw [eQ];exact (by decide:(4:Nat)≠3))) h3⟩
 refine h.chg k hg (by rw [mY];decide) (λit v h hz=>⟨it,hI it v h,hz⟩) λbd v hb hz=> ?_
 obtain ⟨q,T1,b1,b2,rfl,b4,b5,b6⟩:=hb
 have t1:bd.kd= .str->(σ.set r (.list [.str kd.code, .ref T, .int (ac':Nat)])).get T1=some (.list (bd.ocs.map λx=>AV.int ((x:Nat):Int))):=λz=>k _ _ (cz (b5 z) hg (by have:=nZ bd.ocs;simp only [mY];exact Mx this)) (b5 z)
 have t2:bd.kd≠ .str-> ∃vs,(σ.set r (.list [.str kd.code, .ref T, .int (ac':Nat)])).get T1=some (.list vs)/\ae (bt (σ.set r (.list [.str kd.code, .ref T, .int (ac':Nat)])) lo) bd.aj vs:=λz=>by
  obtain ⟨vs,q1,q2⟩:=b6 z
  exact ⟨vs,k _ _ (cz q1 hg (by have:=fg (λ_ _ h=>bt.ju h) q2;simp only [mY];exact Lv this)) q1,q2.imp hI⟩
 by_cases hq:q=r
 ·subst hq
  have y:=List.cons.inj (AO.list.inj (Option.some.inj (hg.symm.trans b4)))
  have y1:=Kd.code_inj (AV.str.inj y.1)
  have y2:=AV.ref.inj (List.cons.inj y.2).1
  refine ⟨{bd with ac:=ac'},⟨q,T1,b1,b2,rfl, ?_,t1,t2⟩,rfl,hz.aj,hz.str,hz.z,kU⟩
  rw [aF,y1,y2]
 ·exact ⟨bd,⟨q,T1,b1,b2,rfl,k _ _ hq b4,t1,t2⟩,rfl,hz⟩
theorem dh.Qj {T:Nat} {ocs ocs':List Nat} (hg:σ.get T=some (.list (ocs.map λx=>AV.int ((x:Nat):Int)))) (hl:ocs'.length=ocs.length) (h0:0<ocs.length) (kU: ∀x∈ocs',x=97∨x=98) (h:dh σ lo pk zs m d):dh (σ.set T (.list (ocs'.map λx=>AV.int ((x:Nat):Int)))) lo pk zs m d:=by
 have k: ∀i o,i≠T->σ.get i=some o->(σ.set T (.list (ocs'.map λx=>AV.int ((x:Nat):Int)))).get i=some o:=λi o hi e=>(av hi).trans e
 have hc:cls (ocs.map λx=>AV.int ((x:Nat):Int))=2:=by
  cases ocs with
  |nil=>cases h0
  |cons _ _=>rfl
 have hI: ∀it v,bt σ lo it v->bt (σ.set T (.list (ocs'.map λx=>AV.int ((x:Nat):Int)))) lo it v:=λit v h=>by
  obtain ⟨q,h1,h2,h3⟩:=h
  exact ⟨q,h1,h2,k _ _ (cz h3 hg (by rw [eQ,hc];decide)) h3⟩
 refine h.chg k hg (by exact Oj hc) (λit v h hz=>⟨it,hI it v h,hz⟩) λbd v hb hz=> ?_
 obtain ⟨q,T1,b1,b2,rfl,b4,b5,b6⟩:=hb
 have t2:bd.kd≠ .str-> ∃vs,(σ.set T (.list (ocs'.map λx=>AV.int ((x:Nat):Int)))).get T1=some (.list vs)/\ae (bt (σ.set T (.list (ocs'.map λx=>AV.int ((x:Nat):Int)))) lo) bd.aj vs:=λz=>by
  obtain ⟨vs,q1,q2⟩:=b6 z
  exact ⟨vs,k _ _ (cz q1 hg (by have:=fg (λ_ _ h=>bt.ju h) q2;exact Mo hc this)) q1,q2.imp hI⟩
 have ip:=k _ _ (cz b4 hg (by rw [hc];exact (by decide:(3:Nat)≠2))) b4
 by_cases hk:bd.kd= .str
 ·by_cases hq:T1=T
  ·subst hq
   have e:=congrArg List.length (AO.list.inj (Option.some.inj (hg.symm.trans (b5 hk))))
   rw [List.length_map,List.length_map] at e
   have hs:bH {bd with ocs:=ocs'}=bH bd:=by
    obtain ⟨kd,os,is,ac⟩:=bd
    cases (show kd= .str from hk)
    exact congrArg (Prod.mk _) (hl.trans e)
   exact ⟨{bd with ocs:=ocs'},⟨q,T1,b1,b2,rfl,ip,λ_=>aF,λz=>absurd hk z⟩,hs,hz.aj,λ_=>⟨(hz.str hk).1,kU⟩,hs▸hz.z,hz.ac⟩
  ·exact ⟨bd,⟨q,T1,b1,b2,rfl,ip,λz=>k _ _ hq (b5 z),t2⟩,rfl,hz⟩
 ·exact ⟨bd,⟨q,T1,b1,b2,rfl,ip,λz=>absurd z hk,t2⟩,rfl,hz⟩
theorem cj.mono {z:Kd×Nat} {it:It} (h:cj pk zs it):cj pk (zs++ [z]) it:=by
 cases it with
 |num k=>exact h
 |obj kd b st mn ex ac=>
  obtain ⟨h1,h2⟩:=h
  refine ⟨?_,h2⟩
  rw [List.getElem?_append_left (List.getElem?_eq_some_iff.mp h1).1];exact h1
theorem dh.more {B:Nat} {bv:List AV} {bs:List Bd} {bd:Bd} {v:AV} (hg:σ.get B=some (.list bv)) (hA:ae (dz σ lo) bs bv) (d0:bs≠ []) (hb:dz σ lo bd v) (hz:dU pk zs bd) {sh:Sh} {S:Nat} {sv:List AV} (h1:lo≤d) (h2:lo≤B) (h3:lo≤S) (h4:σ.get d=some (.dict [(.str 56, .ref B),(.str 58, .ref S)])) (h7:σ.get S=some (.list sv)) (h8:ae (bt σ lo) sh.st sv)
  (e1:bs.map bH=zs) (e2: ∀b∈bs,dU pk zs b) (e3: ∀it∈sh.st,cj pk zs it) (e4:sh.st.length=m):dh (σ.set B (.list (bv++ [v]))) lo pk (zs++ [bH bd]) m d:=by
 have k: ∀i o,i≠B->σ.get i=some o->(σ.set B (.list (bv++ [v]))).get i=some o:=λi o hi e=>(av hi).trans e
 obtain ⟨q0,Dc,PC,UU⟩: ∃q Dc,bv= .ref q::Dc/\ ∃a b c,σ.get q=some (.list [.str a, .ref b, .int c]):=by
  cases hA with
  |nil=>exact absurd rfl d0
  |cons h t=>obtain ⟨r,T,_,_,rfl,h,_⟩:=h;exact ⟨r,_,rfl,_,_,_,h⟩
 have Je:cls bv=1:=by rw [PC];rfl
 have ner: ∀{aj:List It} {vs:List AV} {T:Nat},ae (bt σ lo) aj vs->σ.get T=some (.list vs)->T≠B:=λA hT e=>by
  subst e
  cases hg.symm.trans hT
  rw [PC] at A
  cases A with
  |cons h t=>
   obtain ⟨r,_,h1,h2⟩:=h
   cases h1
   obtain ⟨a,b,c,h⟩:=UU
   exact absurd rfl (cz h h2 (by rw [mY,eQ];decide))
 have hI: ∀it v',bt σ lo it v'->bt (σ.set B (.list (bv++ [v]))) lo it v':=λit v' h=>by
  obtain ⟨q,h1,h2,h3⟩:=h
  exact ⟨q,h1,h2,k _ _ (cz h3 hg (by rw [eQ,Je];decide)) h3⟩
 have PD: ∀bd v',dz σ lo bd v'->dz (σ.set B (.list (bv++ [v]))) lo bd v':=λbd v' hb=>by
  obtain ⟨q,T1,b1,b2,rfl,b4,b5,b6⟩:=hb
  refine ⟨q,T1,b1,b2,rfl,k _ _ (cz b4 hg (by rw [Je];exact (by decide:(3:Nat)≠1))) b4,λz=>k _ _ (cz (b5 z) hg (by have:=nZ bd.ocs;exact Kt Je this)) (b5 z),λz=> ?_⟩
  obtain ⟨vs,q1,q2⟩:=b6 z
  exact ⟨vs,k _ _ (ner q2 q1) q1,q2.imp hI⟩
 have sm: ∀b,dU pk zs b->dU pk (zs++ [bH bd]) b:=λb h=>⟨λit hi=>(h.aj it hi).mono,h.str,h.z,h.ac⟩
 refine ⟨⟨bs++ [bd],sh.st⟩,⟨B,bv++ [v],S,sv,h1,h2,h3,k _ _ (λe=>by rw [e,hg] at h4;cases h4) h4,aF,ae.app (.cons (PD _ _ hb) .nil) (hA.imp PD),k _ _ (ner h8 h7) h7,h8.imp hI⟩,by rw [List.map_append,e1];rfl,λb nH=> ?_,λit hi=>(e3 it hi).mono,e4⟩
 rcases List.mem_append.mp nH with h|h
 ·exact sm b (e2 b h)
 ·exact List.mem_singleton.mp h▸sm _ hz
end
noncomputable def jk (σ:a0) (lo pk:Nat) (zs:List (Kd×Nat)) (v:AV):Prop:= ∃R aj vs,v= .ref R/\lo≤R/\σ.get R=some (.list vs)/\ae (bt σ lo) aj vs/\(∀it∈aj,cj pk zs it)/\1≤aj.length/\aj.length≤3
section
variable {σ σ':a0} {lo pk:Nat} {zs:List (Kd×Nat)} {m d dk L:Nat}
theorem jk.keep (k: ∀i o,lo≤i->σ.get i=some o->σ'.get i=some o) {v:AV} (h:jk σ lo pk zs v):jk σ' lo pk zs v:=by
 obtain ⟨R,aj,vs,h1,h2,h3,h4,h5⟩:=h
 exact ⟨R,aj,vs,h1,h2,k _ _ h2 h3,h4.imp λ_ _ z=>z.keep k,h5⟩
theorem gV {a b:Nat} {xs ys:List AV} (h:σ.get a=some (.list xs)) (h':σ.get b=some (.list ys)) (hc:xs.length+ys.length≤aw):bin .add (.ref a) (.ref b) σ=some (.ref σ.n,σ.new (.list (xs++ys))):=by
 exact (aB h).trans ((aB h').trans (if_pos hc))
theorem jd {r:Nat} {xs:List AV} {k:Int} (h:σ.get r=some (.list xs)) (hk:0≤k/\k<1000):bT (.ref r) (.int k) σ=xs[k.toNat]?:=by
 exact (aB h).trans (if_pos (c:=0≤k/\small k=true) ⟨hk.1,by simp [small];exact Md hk⟩)
theorem i0 {q:Nat} {x:AV} {xs:List AV} (h:σ.get q=some (.list (x::xs))):bT (.ref q) (.int 0) σ=some x:=jd h (by decide)
theorem i1 {q:Nat} {x y:AV} {xs:List AV} (h:σ.get q=some (.list (x::y::xs))):bT (.ref q) (.int 1) σ=some y:=jd h (by decide)
theorem i2 {q:Nat} {x y z:AV} {xs:List AV} (h:σ.get q=some (.list (x::y::z::xs))):bT (.ref q) (.int 2) σ=some z:=jd h (by decide)
theorem cU {r:Nat} {xs ys:List AV} {k:Int} {v:AV} (h:σ.get r=some (.list xs)) (e:xs.set k.toNat v=ys) (hk:(decide (0≤k)&&(decide (k.toNat<xs.length)&&small k))=true):gi (.ref r) (.int k) v σ=some (σ.set r (.list ys)):=by
 rw [←e]
 obtain ⟨h1,h2⟩:=Bool.and_eq_true_iff.mp hk
 obtain ⟨h2,h3⟩:=Bool.and_eq_true_iff.mp h2
 exact (aB h).trans (if_pos ⟨of_decide_eq_true h1,of_decide_eq_true h2,h3⟩)
theorem R4 {a b:Int} (h:(small a&&small b)=true):bin .mul (.int a) (.int b) σ=some (.int (a*b),σ):=if_pos h
theorem set_set {r:Nat} {o o':AO}:(σ.set r o).set r o'=σ.set r o':=by
 simp only [a0.set];congr 1;funext i;by_cases h:i=r<;>simp [h]
noncomputable def TP (σ:a0) (dk L lo m d:Nat) (σ':a0):Prop:= ∃si,2≤si.length/\si.length≤6/\dh σ' lo 3 si m d/\Gr (λi=>KL dk L i∨lo≤i) σ σ'
theorem TP.set {r:Nat} {o o':AO} (D:aR σ) (g:Gr (KL dk L) σ σ') (hr:lo≤r) (h:σ'.get r=some o) (hz:2≤zs.length/\zs.length≤6) (w:dh (σ'.set r o') lo 3 zs m d):TP σ dk L lo m d (σ'.set r o'):=
 ⟨zs,hz.1,hz.2,w,(g.weak λ_ z=> .inl z).then ((Gr.set g.ar h _).weak λ_ z=>by subst z;exact .inr hr)⟩
theorem oi {a b:Nat} (h:b≤a):AV.int ((a:Int)-(b:Int))= .int ((a-b:Nat):Int):=by rw [Int.ofNat_sub h]
structure TC (σ:a0) (lo:Nat) (zs:List (Kd×Nat)) (m d dk L r:Nat) (it:It):Prop where
 D:aR σ
 K:DK σ dk L
 hd:dk<lo
 hl:L<lo
 dP:lo≤σ.n
 W:dh σ lo 2 zs m d
 hz:2≤zs.length/\zs.length≤5
 eZ: ∀p∈zs,e9 p
 hr:lo≤r
 hg:σ.get r=some (.list (itV it))
 hi:cj 2 zs it
structure TE (ρ:Loc) (dk d way r:Nat):Prop where
 nE:ρ 45=some (.ref dk)
 jS:ρ 59=some (.ref d)
 gM:ρ 64=some (.int (way:Nat))
 cu:ρ 31=some (.ref r)
variable {n r way:Nat} {it:It} {ρ:Loc} {R:Fl->Loc->a0->Prop}
theorem TC.z6 (T:TC σ lo zs m d dk L r it):2≤zs.length/\zs.length≤6:=⟨T.hz.1,Nat.le_succ_of_le T.hz.2⟩
theorem TC.fin (T:TC σ lo zs m d dk L r it) (fQ:It) (h:cj 3 zs fQ):TP σ dk L lo m d (σ.set r (.list (itV fQ))):=TP.set T.D (Gr.refl T.D) T.hr T.hg T.z6 (T.W.up.item T.hr T.hg h)
theorem zq {ocs:List Nat} (hl:ocs.length=3) (kU: ∀x∈ocs,x=97∨x=98) {P:List AV->Prop} (h: ∀x y z:Nat,ocs= [x,y,z]->y≤195->(∀w∈ [x,195-y,z],w=97∨w=98)->P [.int (x:Nat), .int (y:Nat), .int (z:Nat)]):P (ocs.map λx=>AV.int ((x:Nat):Int)):=by
 match ocs,hl with
 | [x,y,z],_=>
  have hy:=kU y (by simp)
  refine h x y z rfl (by exact Mp hy) λw hw=> ?_
  simp at hw
  rcases hw with rfl|rfl|rfl
  ·exact kU _ (by simp)
  ·exact Kn hy
  ·exact kU _ (by simp)
theorem MK (T:TC σ lo zs m d dk L r it) (E:TE ρ dk d 0 r) (hn: ∀ρ σ',TP σ dk L lo m d σ'->R .next ρ σ'):wSs (callI (n+1)) (bY.drop 4) ρ σ R:=by
 obtain ⟨⟨bs,st⟩,⟨B,bv,S,sv,h1,h2,h3,h4,h5,h6,h7,h8⟩,e1,e2,e3,e4⟩:=T.W
 have dE:bs.length=bv.length:=h6.len
 have dQ:zs.length=bs.length:=by rw [←e1,List.length_map]
 have hz:=T.hz
 refine aa E.gM (aa E.jS (a9 (gw h4) (aa E.nE (aa E.jS (a9 (gw h4) (a9 (len_list h5 (by unfold aw;exact Nr dE dQ hz)) (?_:callI _ _ _ _ _)))))))
 refine draw T.D T.K (many:=bv.length) (by exact NO dE dQ hz) λk σ1 hk K1 g1=> ?_
 have ab:=g1.above T.hd T.hl
 have W1:=(T.W.keep ab).up
 have z6:=T.z6
 have D:=T.D
 obtain ⟨v,hv⟩: ∃v,bv[k]?=some v:=⟨_,List.getElem?_eq_getElem hk⟩
 obtain ⟨bd,aU,q,T,b1,b2,rfl,b4,b5,b6⟩:=h6.get hv
 have ip:=ab _ _ b1 b4
 have kV:=e2 bd (List.mem_of_getElem? aU)
 refine a9 ((cG (ab _ _ h2 h5) (show k<1000 by exact CE dE dQ hz hk)).trans hv) (a9 (i0 ip) ?_)
 by_cases aW:bd.kd= .str
 ·refine bb (by rw [aW];rfl:decide (bd.kd.code=19)=true) (a9 (i1 ip) (?_:oB _ _))
  have hT:=ab _ _ b2 (b5 aW)
  have UW:bd.ocs.length=3:=by have:=kV.z;simpa [e9,bH,aW,Bd.size] using this
  revert hT
  refine zq UW (kV.str aW).2 (P:=λl=>σ1.get T=some (.list l)->_) λx y z e hy kU hT=> ?_
  refine a9 (i1 hT) (a9 (i1 ip) (a9 (cU (ys:= [x,195-y,z].map λx=>AV.int ((x:Nat):Int)) hT (congrArg (λv=> [AV.int (x:Nat),v,AV.int (z:Nat)]) (oi hy)) rfl) ?_))
  exact hn _ _ (TP.set D g1 b2 hT z6 (W1.Qj (ocs:= [x,y,z]) (ocs':= [x,195-y,z]) hT rfl (Nat.succ_pos _) kU))
 ·refine aG (decide_eq_false (iY bd.kd aW)) (a9 (i2 ip) (?_:oB _ _))
  have j9:=kV.ac
  refine a9 (cU ip (congrArg (λv=> [AV.str bd.kd.code, .ref T,v]) (oi (a:=5) (by exact Lx j9))) rfl) ?_
  exact hn _ _ (TP.set D g1 b1 ip z6 (W1.acc b1 ip (by exact Le j9)))
theorem Kh {k:Nat} (T:TC σ lo zs m d dk L r (.num k)) (hw:(way:Int)≠0) (E:TE ρ dk d way r) (hn: ∀ρ σ',TP σ dk L lo m d σ'->R .next ρ σ'):wSs (callI (n+1)) (bY.drop 4) ρ σ R:=by
 have hg:σ.get r=some (.list [.str 49, .int (k:Nat)]):=T.hg
 refine aa E.gM (aG (decide_eq_false hw) (aa E.cu (a9 (i0 hg) (aa E.cu (a9 (i1 hg) (aa E.cu (a9 (cU (ys:=itV (.num (k+1))) hg rfl rfl) ?_)))))))
 exact hn _ _ (T.fin (.num (k+1)) (Nat.succ_le_succ T.hi))
section
variable {kd:Kd} {b s mn:Nat} {ex:Bool} {ac:Nat}
theorem gG: ∀k:Kd,¬k.code=49
 | .arr| .str| .az=>by decide
noncomputable def eU (kd:Kd) (b s mn:Nat) (ex:Bool) (ac:Nat):List AV:= [.str kd.code, .int (b:Nat), .int (s:Nat), .int (mn:Nat), .bool ex, .int (ac:Nat)]
theorem yr {bd:Bd} (h:dU 2 zs bd) {v:AV} {T:Nat} (h5:bd.kd= .str->σ.get T=some (.list (bd.ocs.map λx=>AV.int ((x:Nat):Int)))) (h6:bd.kd≠ .str-> ∃vs,σ.get T=some (.list vs)/\ae (bt σ lo) bd.aj vs): ∃ws,σ.get T=some (.list ws)/\ws.length≤3:=by
 have hz:=h.z
 by_cases hk:bd.kd= .str
 ·exact ⟨_,h5 hk,by simp [e9,bH,hk,Bd.size] at hz;simp [hz]⟩
 ·obtain ⟨vs,q1,q2⟩:=h6 hk
  refine ⟨vs,q1, ?_⟩
  rw [←q2.len]
  cases UX:bd.kd<;>simp [e9,bH,UX,Bd.size] at hz hk⊢ <;>omega
theorem LK (T:TC σ lo zs m d dk L r (.obj kd b s mn ex ac)) (hw:(way:Int)≠0) (yU:(way:Int)<3) (E:TE ρ dk d way r) (hn: ∀ρ σ',TP σ dk L lo m d σ'->R .next ρ σ'):wSs (callI (n+1)) (bY.drop 4) ρ σ R:=by
 have hg:σ.get r=some (.list (eU kd b s mn ex ac)):=T.hg
 obtain ⟨⟨bs,st⟩,⟨B,bv,S,sv,h1,h2,h3,h4,h5,h6,h7,h8⟩,e1,e2,e3,e4⟩:=T.W
 obtain ⟨z1,z2⟩:=T.hi
 have dE:bs.length=bv.length:=h6.len
 have dQ:zs.length=bs.length:=by rw [←e1,List.length_map]
 have hz:=T.hz
 have Dd:b<zs.length:=(List.getElem?_eq_some_iff.mp z1).1
 obtain ⟨bd,aU⟩: ∃bd,bs[b]?=some bd:=⟨_,List.getElem?_eq_getElem (by exact Cm dQ Dd)⟩
 have ja:bH bd=(kd,s+mn):=by
  rw [←e1,List.getElem?_map,aU] at z1;exact Option.some.inj z1
 obtain ⟨v,hv,q,T',b1,b2,rfl,b4,b5,b6⟩:=h6.get' aU
 have kV:=e2 bd (List.mem_of_getElem? aU)
 obtain ⟨ws,hT,UY⟩:=yr (v:= .none) kV b5 b6
 refine aa E.gM (aG (decide_eq_false hw) (aa E.cu (a9 (i0 hg) (aG (decide_eq_false (gG kd)) (aa E.gM (bb (decide_eq_true yU) (aa E.jS (a9 (gw h4) (aa E.cu (a9 (i1 hg) (a9 ((cG h5 (by exact Ky hz Dd)).trans hv) (a9 (gy b4) (aa E.jS (a9 (gw h4) (?_:oB _ _)))))))))))))))
 have g1:=Gr.new T.D (.list ws)
 have g2:=Gr.new g1.ar (.list [.str bd.kd.code, .ref σ.n, .int (bd.ac:Nat)])
 have De:=g2.ext _ _ (g1.ext _ _ h5)
 refine a9 (kZ hT (by unfold aw;exact Kx UY)) (bL ⟨_,h5⟩ De (a9 (cX De (by unfold aw;exact Oh dE dQ hz)) (aa E.jS (?_:oB _ _))))
 have G:Gr no σ ((σ.new (.list ws)).new (.list [.str bd.kd.code, .ref σ.n, .int (bd.ac:Nat)])):=g1.then g2
 have Sp:dz ((σ.new (.list ws)).new (.list [.str bd.kd.code, .ref σ.n, .int (bd.ac:Nat)])) lo bd (.ref (σ.new (.list ws)).n):=by
  refine ⟨_,σ.n,Nat.le_succ_of_le T.dP,T.dP,rfl,af,λz=> ?_,λz=> ?_⟩
  ·exact (g2.ext _ _ af).trans (hT.symm.trans (b5 z))
  ·obtain ⟨vs,q1,q2⟩:=b6 z
   exact ⟨vs,(g2.ext _ _ af).trans (hT.symm.trans q1),q2.imp λ_ _ y=>y.keep G.bh⟩
 have W2:=dh.more (bs:=bs) (d:=d) (m:=m) (sh:=⟨bs,st⟩) De (h6.imp λ_ _ y=>y.keep G.bh) (λe=>by rw [e] at aU;cases aU) Sp kV h1 h2 h3 (G.ext _ _ h4) (G.ext _ _ h7) (h8.imp λ_ _ y=>y.keep G.bh) e1 e2 e3 e4
 have UZ:r≠B:=cz T.hg h5 (by
  have:=fg (λ_ _ h=>dz.ju h) h6
  rw [eQ];exact L7 this)
 have gs:=Gr.set G.ar De (.list (bv++ [.ref (σ.new (.list ws)).n]))
 have yV:=(av (o:= .list (bv++ [.ref (σ.new (.list ws)).n])) UZ).trans (G.ext _ _ hg)
 have uo:=(av (o:= .list (bv++ [.ref (σ.new (.list ws)).n])) (λe:d=B=>by subst e;rw [h5] at h4;cases h4)).trans (G.ext _ _ h4)
 have Jf:((((σ.new (.list ws)).new (.list [.str bd.kd.code, .ref σ.n, .int (bd.ac:Nat)])).set B (.list (bv++ [.ref (σ.new (.list ws)).n]))).get B=some (.list (bv++ [.ref (σ.new (.list ws)).n]))):=aF
 have lW:=T.hr
 revert yV uo Jf W2 gs
 generalize ((σ.new (.list ws)).new (.list [.str bd.kd.code, .ref σ.n, .int (bd.ac:Nat)])).set B (.list (bv++ [.ref (σ.new (.list ws)).n]))=s9
 intro W2 gs yV uo Jf
 refine a9 (gw uo) (a9 (len_list Jf (by rw [List.length_append];unfold aw;simp;exact Nc dE dQ hz)) (aa E.cu (a9 (cU (ys:=itV (.obj kd zs.length s mn ex ac)) yV (congrArg (λv=> [AV.str kd.code,v, .int (s:Nat), .int (mn:Nat), .bool ex, .int (ac:Nat)]) (by rw [List.length_append,←dE,←dQ];exact congrArg AV.int (by simp))) rfl) ?_)))
 refine hn _ _ ⟨zs++ [bH bd],by simp;exact MP hz,by simp;exact LZ hz,W2.up.item (it:= .obj kd b s mn ex ac) lW yV ⟨by rw [ja];simp,z2⟩, ?_⟩
 exact G.any.then ((gs.weak λ_ z=> .inr (z▸h2)).then ((Gr.set gs.ar yV _).weak λ_ z=> .inr (z▸lW)))
theorem i3 (h:σ.get r=some (.list (eU kd b s mn ex ac))):bT (.ref r) (.int 3) σ=some (.int (mn:Nat)):=jd h (by decide)
theorem i4 (h:σ.get r=some (.list (eU kd b s mn ex ac))):bT (.ref r) (.int 4) σ=some (.bool ex):=jd h (by decide)
theorem i5 (h:σ.get r=some (.list (eU kd b s mn ex ac))):bT (.ref r) (.int 5) σ=some (.int (ac:Nat)):=jd h (by decide)
theorem BG (T:TC σ lo zs m d dk L r (.obj kd b s mn ex ac)) (E:TE ρ dk d way r) (hn: ∀ρ σ',TP σ dk L lo m d σ'->R .next ρ σ'):wSs (callI (n+1)) [.iff (.cmp .eq (.var 64) (.lit (.int 4)))
        [
         .dM (.var 31) (.lit (.int 4)) (.not (.idx (.var 31) (.lit (.int 4))))]
        [
         .dM (.var 31) (.lit (.int 5)) (.bin .sub (.lit (.int 5)) (.idx (.var 31) (.lit (.int 5))))]] ρ σ R:=by
 have hg:σ.get r=some (.list (eU kd b s mn ex ac)):=T.hg
 obtain ⟨z1,z2,z3,z4,z5,z6⟩:=T.hi
 by_cases PF:(way:Int)=4
 ·refine aa E.gM (bb (decide_eq_true PF) (aa E.cu (a9 (i4 hg) ?_)))
  cases ex with
  |true=>
   refine aa E.cu (a9 (cU (ys:=itV (.obj kd b s mn false ac)) hg rfl rfl) ?_)
   exact hn _ _ (T.fin (.obj kd b s mn false ac) ⟨z1,z2,z3,z4,z5,z6⟩)
  |false=>
   refine aa E.cu (a9 (cU (ys:=itV (.obj kd b s mn true ac)) hg rfl rfl) ?_)
   exact hn _ _ (T.fin (.obj kd b s mn true ac) ⟨z1,z2,z3,z4,z5,z6⟩)
 ·refine aa E.gM (aG (decide_eq_false PF) (aa E.cu (a9 (i5 hg) (aa E.cu (a9 (cU (ys:=itV (.obj kd b s mn ex (5-ac))) hg (congrArg (λv=> [AV.str kd.code, .int (b:Nat), .int (s:Nat), .int (mn:Nat), .bool ex,v]) (oi (a:=5) (by exact Nn z6))) rfl) ?_)))))
  exact hn _ _ (T.fin (.obj kd b s mn ex (5-ac)) ⟨z1,z2,z3,z4,by exact Ly z6,by exact L8 z5⟩)
theorem Lw (T:TC σ lo zs m d dk L r (.obj kd b s mn ex ac)) (aW:kd≠ .az) (E:TE ρ dk d 3 r) (hn: ∀ρ σ',TP σ dk L lo m d σ'->R .next ρ σ'):wSs (callI (n+1)) (bY.drop 4) ρ σ R:=by
 have hg:σ.get r=some (.list (eU kd b s mn ex ac)):=T.hg
 obtain ⟨z1,z2,z3,z4,z5,z6⟩:=T.hi
 have sm:(small (2:Int)&&small (s:Nat))=true:=by simp [small];exact Ln z2
 have gn:=Gr.new T.D (.tup [.int (1-(s:Nat)), .int (((mn:Nat):Int)+2*((s:Nat):Int)-1)])
 have PG:=gn.ext _ _ hg
 have ph:=T.eZ _ (List.mem_of_getElem? z1)
 have Jg:2≤s+mn/\s+mn≤3:=by cases kd<;>simp [e9] at ph aW<;>omega
 have e:((eU kd b s mn ex ac).set 2 (.int (1-(s:Nat)))).set 3 (.int (((mn:Nat):Int)+2*((s:Nat):Int)-1))=itV (.obj kd b (1-s) (mn+2*s-1) ex ac):=by
  have a1:((1:Int)-(s:Nat))=((1-s:Nat):Int):=by exact Li z2
  have a2:(((mn:Nat):Int)+2*((s:Nat):Int)-1)=((mn+2*s-1:Nat):Int):=by exact L0 Jg
  rw [a1,a2];rfl
 refine aa E.gM (aa E.cu (a9 (i0 hg) (aG (decide_eq_false (gG kd)) (aa E.gM (aa E.gM (aa E.cu (a9 (i0 hg) (bb (yq kd aW) (aa E.cu (a9 (i2 hg) (aa E.cu (a9 (i3 hg) (aa E.cu (a9 (i2 hg) (bw (R4 sm) (a9 (cQ af) (aa E.cu (a9 (cU PG rfl rfl) (aa E.cu (a9 (cU aF e rfl) ?_))))))))))))))))))))
 refine hn _ _ ?_
 rw [set_set]
 exact TP.set T.D gn.any T.hr PG T.z6 ((T.W.keep gn.bh).up.item T.hr (gn.ext _ _ T.hg) ⟨by rw [show 1-s+(mn+2*s-1)=s+mn by exact Ks z2 Jg];exact z1,by exact LD,by exact Ki z2 Jg,λh=>absurd h aW,z5,z6⟩)
end
theorem wu (T:TC σ lo zs m d dk L r it) (E:TE ρ dk d way r) (hn: ∀ρ σ',TP σ dk L lo m d σ'->R .next ρ σ'):wSs (callI (n+1)) (bY.drop 4) ρ σ R:=by
 by_cases hw:way=0
 ·subst hw
  exact MK T E hn
 ·have hw:(way:Int)≠0:=by exact LU hw
  cases it with
  |num k=>exact Kh T hw E hn
  |obj kd b s mn ex ac=>
   have hg:σ.get r=some (.list (eU kd b s mn ex ac)):=T.hg
   by_cases yU:(way:Int)<3
   ·exact LK T hw yU E hn
   ·by_cases h3:(way:Int)=3
    ·by_cases aW:kd= .az
     ·refine aa E.gM (aG (decide_eq_false hw) (aa E.cu (a9 (i0 hg) (aG (decide_eq_false (gG kd)) (aa E.gM (aG (decide_eq_false yU) (aa E.gM (bb (decide_eq_true h3) (aa E.cu (a9 (i0 hg) ?_))))))))))
      refine aG (by rw [aW];rfl:(!decide (kd.code=16))=false) ?_
      exact BG T E hn
     ·have h3:way=3:=by exact Mh h3
      subst h3
      exact Lw T aW E hn
    ·refine aa E.gM (aG (decide_eq_false hw) (aa E.cu (a9 (i0 hg) (aG (decide_eq_false (gG kd)) (aa E.gM (aG (decide_eq_false yU) (aa E.gM ?_)))))))
     refine aG (decide_eq_false h3) (aG (rfl:false=false) ?_)
     exact BG T E hn
end
section
variable {σ σ':a0} {lo pk:Nat} {zs:List (Kd×Nat)} {m d dk L:Nat}
theorem EO {bd:Bd} (kV:dU 2 zs bd) (aW:bd.kd≠ .str):1≤bd.aj.length/\bd.aj.length≤3:=by
 have Df:=kV.z
 obtain ⟨kd,os,is,ac⟩:=bd
 cases kd with
 |str=>exact absurd rfl aW
 |arr=>exact ⟨Nat.le_of_succ_le Df.1,Df.2⟩
 |az=>exact ⟨Nat.le_of_eq (show is.length=1 from Df).symm,Nat.le_trans (Nat.le_of_eq (show is.length=1 from Df)) (Nat.le_of_ble_eq_true rfl)⟩
theorem td {n R:Nat} {rows:List AV} {s3:a0} {ρ:Loc} {P:Fl->Loc->a0->Prop} (D:aR σ) (K:DK σ dk L) (hd:dk<lo) (hl:L<lo) (dP:lo≤σ.n) (W:dh σ lo 2 zs m d) (hz:2≤zs.length/\zs.length≤5) (eZ: ∀p∈zs,e9 p)
  (G:Gr no σ s3) (hR:s3.get R=some (.list rows)) (Sq:lo≤R) (Ox: ∀v∈rows,jk s3 lo 2 zs v) (Jh:rows.length≤9/\0<rows.length) (nE:ρ 45=some (.ref dk)) (jS:ρ 59=some (.ref d)) (PH:ρ 61=some (.ref R))
  (hn: ∀ρ σ',TP σ dk L lo m d σ'->P .next ρ σ'):wSs (callI (n+1)) (bY.drop 1) ρ s3 P:=by
 refine aa PH (aa nE (aa PH (a9 (len_list hR (by unfold aw;exact Ov Jh)) (?_:callI _ _ _ _ _))))
 refine draw G.ar (K.keep G.ext) (many:=rows.length) Jh.2 λk σ4 hk K4 g4=> ?_
 have a4:=g4.above hd hl
 obtain ⟨v,hv⟩: ∃v,rows[k]?=some v:=⟨_,List.getElem?_eq_getElem hk⟩
 obtain ⟨Q,aj,vs,rfl,q1,q2,q3,q4,q5,q6⟩:=(Ox v (List.mem_of_getElem? hv)).keep a4
 have q7:=q3.len
 refine a9 ((cG (a4 _ _ Sq hR) (show k<1000 by exact Kr Jh hk)).trans hv) (aa nE (a9 (len_list q2 (by unfold aw;exact N0 q6 q7)) (?_:callI _ _ _ _ _)))
 refine draw g4.ar K4 (many:=vs.length) (by exact LX q5 q7) λspot σ5 hs K5 g5=> ?_
 refine aa nE (?_:callI _ _ _ _ _)
 refine draw g5.ar K5 (many:=6) (by decide) λway σ6 hw K6 g6=> ?_
 have g7:=Gr.new g6.ar (.tup [.int (spot:Nat), .int (way:Nat)])
 have GG:Gr (KL dk L) σ (σ6.new (.tup [.int (spot:Nat), .int (way:Nat)])):=G.any.then (g4.then (g5.then (g6.then g7.any)))
 have a7:=Gr.above hd hl (g5.then (g6.then g7.any))
 obtain ⟨v,hv⟩: ∃v,vs[spot]?=some v:=⟨_,List.getElem?_eq_getElem hs⟩
 obtain ⟨it,hit,r',i1,rfl,i3⟩:=q3.get hv
 refine a9 (cQ af) (a9 ((cG (a7 _ _ q1 q2) (show spot<1000 by exact Nm q6 q7 hs)).trans hv) ?_)
 refine (?_:wSs _ _ _ _ _)
 exact wu ⟨GG.ar,K6.keep g7.ext,hd,hl,Nat.le_trans dP GG.n,W.keep (GG.above hd hl),hz,eZ,i1,a7 _ _ i1 i3,q4 it (List.mem_of_getElem? hit)⟩ ⟨nE,jS,rfl,rfl⟩ λρ σ' ⟨si,t1,t2,t3,t4⟩=>hn ρ σ' ⟨si,t1,t2,t3,(GG.weak λ_ z=> .inl z).then t4⟩
theorem yH {n:Nat} (D:aR σ) (K:DK σ dk L) (hd:dk<lo) (hl:L<lo) (dP:lo≤σ.n) (W:dh σ lo 2 zs m d) (hz:2≤zs.length/\zs.length≤5) (eZ: ∀p∈zs,e9 p) (hm:2≤m/\m≤3) {Q:AV->a0->Prop} (hQ: ∀v σ',TP σ dk L lo m d σ'->Q v σ'):callI (n+2) 14 [.ref dk, .ref d] σ Q:=by
 obtain ⟨⟨bs,st⟩,⟨B,bv,S,sv,h1,h2,h3,h4,h5,h6,h7,h8⟩,e1,e2,e3,e4⟩:=id W
 have dE:bs.length=bv.length:=h6.len
 have dQ:zs.length=bs.length:=by rw [←e1,List.length_map]
 have e4:st.length=m:=e4
 refine aC (bs:= [(45, .ref dk),(59, .ref d)]) rfl rfl ?_
 intro P hr hn
 have g1:=Gr.new D (.list [.ref S])
 have Oy:jk (σ.new (.list [.ref S])) lo 2 zs (.ref S):=⟨S,st,sv,rfl,h3,g1.ext _ _ h7,h8.imp λ_ _ y=>y.keep g1.bh,e3,by exact MG hm e4,by exact LG hm e4⟩
 refine a9 (qA h4) (a9 (gw (g1.ext _ _ h4)) (a9 (cI (g1.ext _ _ h5)) (?_:bE _ _ _ _ _ _ _ _ _ _)))
 refine bC (bv.map ([·])) (λk acc ρ s=>s=σ.new (.list [.ref S])/\acc.length≤k/\ ∀v∈acc,jk (σ.new (.list [.ref S])) lo 2 zs v) ?_ ?_ ?_ turns 0 [] _ _ (Nat.zero_le _) (by rw [List.length_map,aP];exact Lo hz dE dQ) ⟨rfl,Nat.le_refl _,λ_ h=>nomatch h⟩
 ·rintro k acc ρ s ⟨rfl,_⟩;exact cq (g1.ext _ _ h5)
 ·rintro k acc ρ s ws ⟨rfl,a1,a2⟩ hx Q hQ
  refine get_1 hx λv hv=> ?_
  obtain ⟨bd,aU,q,T,b1,b2,rfl,b4,b5,b6⟩:=h6.get hv
  have kV:=e2 bd (List.mem_of_getElem? aU)
  refine a9 (gy (g1.ext _ _ b4)) ?_
  by_cases aW:bd.kd= .str
  ·refine aG (by rw [aW];rfl:(!decide (bd.kd.code=19))=false) ?_
   exact hQ _ _ _ ⟨rfl,Nat.le_succ_of_le a1,a2⟩
  ·refine bb (nS bd.kd aW) ?_
   obtain ⟨vs,q1,q2⟩:=b6 aW
   exact hQ _ _ _ ⟨rfl,by rw [List.length_append];exact Nat.succ_le_succ a1,gI a2 ⟨T,bd.aj,vs,rfl,b2,g1.ext _ _ q1,q2.imp λ_ _ y=>y.keep g1.bh,kV.aj,EO kV aW⟩⟩
 ·rintro acc ρ s ⟨rfl,a1,a2⟩
  rw [List.length_map] at a1
  have g2:=Gr.new g1.ar (.list acc)
  have g3:=Gr.new g2.ar (.list ([AV.ref S]++acc))
  have V0:([AV.ref S]++acc).length=acc.length+1:=rfl
  refine bw (gV (g2.ext _ _ af) af (by unfold aw;rw [List.length_singleton];exact KJ hz dE dQ a1)) ?_
  refine (?_:wSs _ _ _ _ _)
  refine td D K hd hl dP W hz eZ (g1.then (g2.then g3)) af (Nat.le_trans dP (Nat.le_add_right _ 2)) (λv hv=> ?_) (by exact Mw hz dE dQ a1 V0) (by rfl) (by rfl) (by rfl) λρ σ' h=>hn ρ σ' (hQ _ _ h)
  refine jk.keep (Gr.bh (g2.then g3)) ?_
  rcases List.mem_cons.mp hv with rfl|hv
  ·exact Oy
  ·exact a2 v hv
end
section
variable {σ σ':a0} {lo pk:Nat}
theorem Ek {o o':AO}:(σ.new o).set σ.n o'=σ.new o':=by
 simp only [a0.set,a0.new];congr 1;funext i;by_cases h:i=σ.n<;>simp [h]
theorem zO {C x:Nat} {v:AV} {fs:List (Nat×AV)} (hf:fld C x=true) (hl:fs.length≤100):fW (.ref σ.n) x v (σ.new (.inst C fs))=some (σ.new (.inst C (dg x v fs))):=
 (eF af hf hl).trans (congrArg some Ek)
theorem cg {C x:Nat} {v:AV} {fs:List (Nat×AV)} (h:(fld C x&&Nat.ble fs.length 100)=true):fW (.ref σ.n) x v (σ.new (.inst C fs))=some (σ.new (.inst C (dg x v fs))):=
 zO (Bool.and_eq_true_iff.mp h).1 (Nat.le_of_ble_eq_true (Bool.and_eq_true_iff.mp h).2)
theorem fY {n k a:Nat} {v:AV} {ex:Bool} {Q:AV->a0->Prop} (h:Q .none (σ.new (bP k v ex a))):callI (n+1) 19 [.ref σ.n, .str k,v, .bool ex, .int (a:Nat)] (σ.new (.inst 65 [])) Q:=by
 refine aC (bs:= [(103, .ref σ.n),(13, .str k),(17,v),(104, .bool ex),(21, .int (a:Nat))]) rfl rfl ?_
 intro R hr hn
 refine a9 (cg rfl) (a9 (cg rfl) (a9 (cg rfl) (a9 (cg rfl) ?_)))
 exact hn _ _ h
theorem xo {n b s m:Nat} {Q:AV->a0->Prop} (h:Q .none (σ.new (hZ b s m))):callI (n+1) 24 [.ref σ.n, .ref b, .int (s:Nat), .int (m:Nat)] (σ.new (.inst 67 [])) Q:=by
 refine aC (bs:= [(103, .ref σ.n),(20, .ref b),(53, .int (s:Nat)),(47, .int (m:Nat))]) rfl rfl ?_
 intro R hr hn
 refine a9 (cg rfl) (a9 (cg rfl) (a9 (cg rfl) ?_))
 exact hn _ _ h
theorem dJ.uH {made:List Nat} {it:It} {r:Nat} (h:dJ σ made it r) (k: ∀i C fs,σ.get i=some (.inst C fs)->σ'.get i=some (.inst C fs)):dJ σ' made it r:=by
 cases it with
 |num n=>exact k _ _ _ h
 |obj kd b st mn ex ac=>
  obtain ⟨v,a,h1,h2,h3⟩:=h
  refine ⟨v,a,k _ _ _ h1, ?_,h3⟩
  cases kd with
  |az=>exact h2
  |arr=>obtain ⟨r,s,h1,h2,h3⟩:=h2;exact ⟨r,s,h1,h2,k _ _ _ h3⟩
  |str=>obtain ⟨r,s,h1,h2,h3⟩:=h2;exact ⟨r,s,h1,h2,k _ _ _ h3⟩
theorem mj {x:Nat} {l:List AV} {o:AO} (h:σ.get x=some (.list l)): ∀i C fs,σ.get i=some (.inst C fs)->(σ.set x o).get i=some (.inst C fs):=λi C fs e=>
 (av (λz=>by rw [z,h] at e;cases e)).trans e
noncomputable def TI (σ:a0) (MD:Nat) (made:List Nat) (aj:List It) (k:Nat) (ρ:Loc) (s:a0):Prop:=(ρ 7=some (.ref σ.n)/\ρ 66=some (.ref MD))/\Gr no σ s/\ ∃rs:List Nat,s.get σ.n=some (.list (rs.map .ref))/\ae (dJ s made) (aj.take k) rs
section
variable {MD k r:Nat} {made:List Nat} {aj:List It} {ρ:Loc} {s s2:a0} {C:aD}
theorem TI.app {it:It} (D:aR σ) (hl:aj.length≤3) (I:TI σ MD made aj k ρ s) (hit:aj[k]?=some it) (g2:Gr no s s2) (th:dJ s2 made it r) {Q:AV->a0->Prop} (h: ∀s',TI σ MD made aj (k+1) ρ s'->Q .none s'):wM C s (.ref σ.n) 10 [.ref r] s2 Q:=by
 obtain ⟨e,g,rs,sj,A⟩:=I
 have h2:=g2.ext _ _ sj
 have uq:(rs.map AV.ref).length<aw:=by have:=A.len;rw [List.length_take] at this;rw [List.length_map];unfold aw;exact KW hl this
 refine bL ⟨_,sj⟩ h2 (jh (cX h2 uq) (h _ ⟨e,Gr.bQ D (g.then g2) (Nat.le_refl _) h2,rs++ [r],by rw [aF,List.map_append];rfl, ?_⟩))
 rw [List.take_add_one,hit]
 exact ae.app (.cons (th.uH (mj h2)) .nil) (A.imp λ_ _ y=>(y.keep g2.ext).uH (mj h2))
theorem oh: ∀k:Kd,k≠ .az-> ¬k.code=16
 | .arr,_| .str,_=>by decide
 | .az,h=>absurd rfl h
theorem TI.step {n:Nat} {it:It} {zs:List (Kd×Nat)} (D:aR σ) (hM:σ.get MD=some (.list (made.map .ref))) (iq:made.length=zs.length) (hz:zs.length≤8) (hl:aj.length≤3) (hi:cj pk zs it) (I:TI σ MD made aj k ρ s) (hit:aj[k]?=some it) (hg:s.get r=some (.list (itV it)))
  {K:Fl->Loc->a0->Prop} (hK: ∀ρ2 s2,TI σ MD made aj (k+1) ρ2 s2->K .next ρ2 s2):wSs (callI (n+1)) (match iO with|_:: .cY _ _ _ b::_=>b|_=> []) (ρ.put 31 (.ref r)) s K:=by
 have ⟨⟨e7,PI⟩,g,_⟩:=I
 have I':TI σ MD made aj k (ρ.put 31 (.ref r)) s:=I
 cases it with
 |num k=>
  have hg:s.get r=some (.list [.str 49, .int (k:Nat)]):=hg
  refine a9 (i0 hg) (aa e7 (a9 (i1 hg) (?_:callI _ _ _ _ _)))
  refine fY ⟨rfl, ?_⟩
  exact I'.app D hl hit (Gr.new g.ar _) (af:dJ _ made (.num k) s.n) λs' h=>hK _ _ h
 |obj kd b st mn ex ac=>
  have hg:s.get r=some (.list (eU kd b st mn ex ac)):=hg
  have Dg:b<made.length:=by rw [iq];exact (List.getElem?_eq_some_iff.mp hi.1).1
  obtain ⟨q,hq⟩: ∃q,made[b]?=some q:=⟨_,List.getElem?_eq_getElem Dg⟩
  have PJ: ∀{s:a0},Gr no σ s->bT (.ref MD) (.int (b:Nat)) s=some (.ref q):=λg=>(cG (g.ext _ _ hM) (by exact Na iq hz Dg)).trans (by rw [List.getElem?_map,hq];rfl)
  by_cases aW:kd= .az
  ·subst aW
   refine a9 (i0 hg) (a9 (i0 hg) (aa e7 (aa PI (a9 (i1 hg) (a9 (PJ g) (a9 (i4 hg) (?_:callI _ _ _ _ _)))))))
   refine fY ⟨rfl, ?_⟩
   exact I'.app D hl hit (Gr.new g.ar _) (⟨.ref q,3,af,⟨q,hq,rfl⟩,λh=>absurd rfl h⟩:dJ _ made (.obj .az b st mn ex ac) s.n) λs' h=>hK _ _ h
  ·refine a9 (i0 hg) (aG (decide_eq_false (gG kd)) (a9 (i0 hg) (aG (decide_eq_false (oh kd aW)) (aa e7 (a9 (i0 hg) (aa PI (a9 (i1 hg) (a9 (PJ g) (a9 (i2 hg) (a9 (i3 hg) (?_:callI _ _ _ _ _)))))))))))
   refine xo ⟨rfl, ?_⟩
   have g2:=Gr.new g.ar (hZ q st mn)
   have g3:=Gr.new g2.ar (bP kd.code (.ref s.n) ex ac)
   refine a9 (i4 (g2.ext _ _ hg)) (a9 (i5 (g2.ext _ _ hg)) (?_:callI _ _ _ _ _))
   refine fY ⟨rfl, ?_⟩
   refine I'.app D hl hit (g2.then g3) (?_:dJ _ made (.obj kd b st mn ex ac) (s.new (hZ q st mn)).n) λs' h=>hK _ _ h
   refine ⟨.ref s.n,ac,af, ?_,λ_=>rfl⟩
   cases kd with
   |az=>exact absurd rfl aW
   |arr=>exact ⟨q,s.n,hq,rfl,g3.ext _ _ af⟩
   |str=>exact ⟨q,s.n,hq,rfl,g3.ext _ _ af⟩
end
theorem kg {n MD R:Nat} {made:List Nat} {aj:List It} {vs:List AV} {zs:List (Kd×Nat)} (D:aR σ) (hM:σ.get MD=some (.list (made.map .ref))) (iq:made.length=zs.length) (hz:zs.length≤8) (hR:σ.get R=some (.list vs)) (A:ae (bt σ lo) aj vs) (hI: ∀it∈aj,cj pk zs it) (hl:aj.length≤3)
  {Q:AV->a0->Prop} (hQ: ∀F rs σ',σ.n≤F->σ'.get F=some (.list (rs.map .ref))->ae (dJ σ' made) aj rs->Gr no σ σ'->Q (.ref F) σ'):callI (n+2) 15 [.ref MD, .ref R] σ Q:=by
 have hlen:=A.len
 refine aC (bs:= [(66, .ref MD),(62, .ref R)]) rfl rfl ?_
 intro P hr hn
 have g1:=Gr.new D (.list [])
 refine a9 (cI (g1.ext _ _ hR)) (?_:dm _ _ _ _ _ _ _ _)
 refine cw (C:=callI (n+1)) (vs.map ([·])) (TI σ MD made aj) ?_ ?_ ?_ turns 0 _ _ (Nat.zero_le _) (by rw [List.length_map,aP];exact Oq hl hlen) ⟨⟨rfl,rfl⟩,g1, [],af, .nil⟩
 ·rintro k ρ s ⟨_,g,_⟩;exact cq (g.ext _ _ hR)
 ·intro k ρ s ws I hx K hK
  refine get_1 hx λv hv=> ?_
  obtain ⟨it,hit,r,_,rfl,i3⟩:=A.get hv
  exact I.step D hM iq hz hl (hI _ (List.mem_of_getElem? hit)) hit (I.2.1.ext _ _ i3) λ_ _ h=>hK _ _ h
 ·rintro ρ2 σ2 ⟨⟨e7,_⟩,g,rs,sj,A'⟩
  rw [List.length_map,←hlen,List.take_length] at A'
  refine aa e7 ?_
  exact hr _ _ _ (hQ _ rs _ (Nat.le_refl _) sj A' g)
end
section
variable {σ σ':a0}
theorem fT {x y:Nat} {v:AV} (h:x≠y): ∀(fs:List (Nat×AV)),flook y (dg x v fs)=flook y fs
 | []=>if_neg h
 |e::r=>by
  have:=fT h (v:=v) r
  rw [dg]
  split
  ·rename_i hx
   rw [flook,flook,if_neg h,if_neg (hx▸h)]
  ·rw [flook,flook,this]
theorem jt {x:Nat} {v:AV}: ∀(fs:List (Nat×AV)),(dg x v fs).length≤fs.length+1
 | []=>Nat.le_refl _
 |e::r=>by
  have:=jt (x:=x) (v:=v) r
  rw [dg]
  split
  ·exact Nat.le_succ _
  ·exact Nat.succ_le_succ this
theorem SI.set {C r y x:Nat} {o:Option AV} {s:a0} {v:AV} (D:aR σ) (hr:σ.n≤r) (hf:fld C x=true) (hy:x≠y) {m:Nat} (I:Gr no σ s/\ ∃fs,s.get r=some (.inst C fs)/\flook y fs=o/\fs.length≤m) (hm:m≤99) {Q:a0->Prop} (h: ∀s',(Gr no σ s'/\ ∃fs,s'.get r=some (.inst C fs)/\flook y fs=o/\fs.length≤m+1)->Q s'):oB (fW (.ref r) x v s) Q:=by
 obtain ⟨g,fs,h1,h2,h3⟩:=I
 exact a9 (eF h1 hf (by exact Ml hm h3)) (h _ ⟨Gr.bQ D g hr h1,_,aF,(fT hy fs).trans h2,Nat.le_trans (jt fs) (Nat.succ_le_succ h3)⟩)
theorem l6 {Cf:aD} {C r y:Nat} {o:Option AV} {ρ:Loc} (D:aR σ) (hr:σ.n≤r) (Ji:ρ 103=some (.ref r)) {R:Fl->Loc->a0->Prop}: ∀(l:List (Nat×IE)) (m:Nat) (s:a0),(Gr no σ s/\ ∃fs,s.get r=some (.inst C fs)/\flook y fs=o/\fs.length≤m)->Nat.ble (m+l.length) 100=true->
  (∀p∈l,(fld C p.1&& !decide (p.1=y))=true/\ ∀s,aR s-> ∀Q:AV->a0->Prop,(∀v s',Gr no s s'->Q v s')->wE Cf p.2 ρ s Q)->(∀s',(Gr no σ s'/\ ∃fs,s'.get r=some (.inst C fs)/\flook y fs=o)->R .next ρ s')->wSs Cf (l.map λp=>IS.aA (.var 103) p.1 p.2) ρ s R
 | [],m,s,I,hm,hp,k=>k s ⟨I.1,let ⟨fs,h1,h2,_⟩:=I.2;⟨fs,h1,h2⟩⟩
 |p::l,m,s,I,hm,hp,k=>by
  obtain ⟨p1,p3⟩:=hp p List.mem_cons_self
  have p1:=Bool.and_eq_true_iff.mp p1
  have pf:=Nat.le_of_ble_eq_true hm
  rw [List.length_cons] at pf
  refine p3 s I.1.ar _ λv s' g'=> ?_
  refine aa Ji ?_
  refine SI.set D hr p1.1 (of_decide_eq_false (Bool.not_eq_true' _|>.mp p1.2)) (m:=m) ⟨I.1.then g',let ⟨fs,h1,h2⟩:=I.2;⟨fs,g'.ext _ _ h1,h2⟩⟩ (by exact Nq pf) λs2 I2=> ?_
  exact l6 D hr Ji l (m+1) s2 I2 (Nat.ble_eq_true_of_le (by exact NY pf)) (λq hq=>hp q (List.mem_cons_of_mem _ hq)) k
theorem Nw {Cf:aD} {ρ:Loc} {v:AV}: ∀s,aR s-> ∀Q:AV->a0->Prop,(∀v s',Gr no s s'->Q v s')->wE Cf (.lit v) ρ s Q:=λs D Q h=>h _ _ (Gr.refl D)
theorem NX {Cf:aD} {ρ:Loc} {x:Nat} {v:AV} (e:ρ x=some v): ∀s,aR s-> ∀Q:AV->a0->Prop,(∀v s',Gr no s s'->Q v s')->wE Cf (.var x) ρ s Q:=λs D Q h=>aa e (h _ _ (Gr.refl D))
theorem Gg {Cf:aD} {ρ:Loc}: ∀s,aR s-> ∀Q:AV->a0->Prop,(∀v s',Gr no s s'->Q v s')->wE Cf (.list []) ρ s Q:=λs D Q h=>h _ _ (Gr.new D _)
theorem H8 {Cf:aD} {ρ:Loc}: ∀s,aR s-> ∀Q:AV->a0->Prop,(∀v s',Gr no s s'->Q v s')->wE Cf (.dict [] []) ρ s Q:=λs D Q h=>h _ _ (Gr.new D _)
theorem L5 {Cf:aD} {ρ:Loc}: ∀s,aR s-> ∀Q:AV->a0->Prop,(∀v s',Gr no s s'->Q v s')->wE Cf (.glob 142) ρ s Q:=λs D Q h=>h _ _ (Gr.refl D)
noncomputable def OQ:List IE->Bool
 | []=>true
 |_::_=>false
noncomputable def wJ (ρ:Loc) (e:IE):Bool:=match e with
 | .lit _=>true
 | .var x=>(ρ x).isSome
 | .list es=>OQ es
 | .dict ks es=>ks.isEmpty&&OQ es
 | .glob x=>decide (x=142)
 |_=>false
theorem yw {Cf:aD} {ρ:Loc} {e:IE} (h:wJ ρ e=true): ∀s,aR s-> ∀Q:AV->a0->Prop,(∀v s',Gr no s s'->Q v s')->wE Cf e ρ s Q:=by
 cases e with
 |lit v=>exact Nw
 |var x=>exact NX (Option.eq_some_of_isSome h)
 |list es=>cases es with
  |nil=>exact Gg
  |cons _ _=>cases h
 |dict ks es=>
  obtain ⟨h1,h2⟩:=Bool.and_eq_true_iff.mp h
  cases List.isEmpty_iff.mp h1
  cases es with
  |nil=>exact H8
  |cons _ _=>cases h2
 |glob x=>
  cases of_decide_eq_true h
  exact L5
 |_=>cases h
theorem m7 {Cf:aD} {ρ:Loc} {C y:Nat} {l:List (Nat×IE)} (h:(l.all λp=>fld C p.1&& !decide (p.1=y)&&wJ ρ p.2)=true): ∀p∈l,(fld C p.1&& !decide (p.1=y))=true/\ ∀s,aR s-> ∀Q:AV->a0->Prop,(∀v s',Gr no s s'->Q v s')->wE Cf p.2 ρ s Q:=λp hp=>
 have h:=Bool.and_eq_true_iff.mp (List.all_eq_true.mp h p hp)
 ⟨h.1,yw h.2⟩
theorem lQ {n:Nat} (D:aR σ) {Q:AV->a0->Prop} (hQ: ∀σ',Gr no σ σ'->Q .none σ'):callI (n+1) 32 [.ref σ.n] (σ.new (.inst 78 [])) Q:=by
 refine aC (bs:=_) rfl rfl ?_
 intro R hr hn
 exact l6 (C:=78) (r:=σ.n) (y:=999) (o:=none) D (Nat.le_refl _) rfl
  [(38, .var 38),(123, .var 123),(130, .var 130),(149, .var 149),(156, .var 156),(1, .var 1),(62, .var 62),(75, .var 75),(76, .var 76),(157, .var 157),(158, .var 158),(128, .var 128),(132, .var 132),(159, .var 159)] 0 (σ.new (.inst 78 [])) ⟨Gr.new D _, [],af,rfl,Nat.le_refl _⟩ rfl (m7 rfl) λs' h=>hn _ _ (hQ _ h.1)
theorem t6 {n:Nat} {v:AV} (D:aR σ) {s:a0} (hs:Gr no σ s) {Q:AV->a0->Prop} (hQ: ∀σ',Gr no σ σ'->Q .none σ'):callI (n+1) 31 [.ref s.n,v] (s.new (.inst 79 [])) Q:=by
 refine aC (bs:=_) rfl rfl ?_
 intro R hr hn
 exact l6 (C:=79) (r:=s.n) (y:=999) (o:=none) D hs.n rfl
  [(125, .var 125),(106, .lit (.bool false)),(149, .list []),(150, .list []),(66, .dict [] []),(151, .list []),(152, .lit (.int 0)),(153, .lit (.int 0)),(154, .lit (.int 0)),(155, .lit (.int 0))] 0 (s.new (.inst 79 [])) ⟨hs.then (Gr.new hs.ar _), [],af,rfl,Nat.le_refl _⟩ rfl (m7 rfl) λs' h=>hn _ _ (hQ _ h.1)
theorem vz {n:Nat} (D:aR σ) {Q:AV->a0->Prop} (hQ: ∀σ',Gr no σ σ'->σ'.get σ.n=some (.inst 80 [(107, .int 40),(39, .ref (σ.n+1))])->σ'.get (σ.n+1)=some (.list [])->Q .none σ'):callI (n+1) 33 [.ref σ.n, .int 40] (σ.new (.inst 80 [])) Q:=by
 refine aC (bs:= [(103, .ref σ.n),(107, .int 40)]) rfl rfl ?_
 intro R hr hn
 have g1:=Gr.new D (.inst 80 [(107, .int 40)])
 have g2:=Gr.new g1.ar (.list [])
 have h2:=g2.ext _ _ af
 refine a9 (cg (C:=80) rfl) (a9 (eF h2 rfl (Nat.le_of_ble_eq_true rfl)) ?_)
 exact hn _ _ (hQ _ (Gr.bQ D (g1.then g2) (Nat.le_refl _) h2) aF ((av (Nat.succ_ne_self _)).trans af))
theorem wh {n:Nat} {v0 v1 v2 v3 v4 v5:AV} (D:aR σ) (V1:gz v1=true) {Q:AV->a0->Prop} (hQ: ∀σ',Gr no σ σ'->bz (.ref σ.n) 38 σ'=some v1->(∃fs,σ'.get σ.n=some (.inst 81 fs))->Q .none σ'):callI (n+2) 29 [.ref σ.n,v0,v1,v2,v3,v4,v5] (σ.new (.inst 81 [])) Q:=by
 refine aC (bs:= [(103, .ref σ.n),(122,v0),(38,v1),(123,v2),(124,v3),(125,v4),(126,v5)]) rfl rfl ?_
 intro R hr hn
 refine (?_:wM _ _ _ _ _ _ _)
 refine cV (f:=30) af rfl rfl ?_
 refine aC (bs:= [(103, .ref σ.n),(122,v0),(38,v1),(123,v2),(124,v3),(125,v4),(126,v5)]) rfl rfl ?_
 intro R' lW lT
 refine a9 (cg (C:=81) rfl) (a9 (cg (C:=81) rfl) ?_)
 refine (?_:wSs _ _ _ _ _)
 refine l6 (C:=81) (r:=σ.n) (y:=38) (o:=some v1) D (Nat.le_refl _) rfl
   [(123, .var 123),(124, .var 124),(125, .var 125),(126, .var 126),(128, .lit .none),(129, .lit .none),(130, .list []),(131, .dict [] []),(132, .lit .none),(133, .lit .none),(134, .lit .none),(135, .lit .none),(136, .lit .none),(137, .lit .none),(138, .lit .none),(139, .lit .none),(140, .lit (.int 0)),(141, .glob 142),(143, .lit (.bool false)),(144, .lit (.bool false)),(145, .lit .none),(146, .lit .none),(147, .lit .none),(148, .lit .none)] 2 (σ.new (.inst 81 [(122,v0),(38,v1)])) ⟨Gr.new D _,_,af,rfl,Nat.le_refl _⟩ rfl (m7 rfl) λs' h=>lT _ _ ?_
 obtain ⟨g,fs,h1,h2⟩:=h
 exact hn _ _ (hQ _ g (aQ h1 rfl h2 V1) ⟨fs,h1⟩)
end
section
variable {σ σ':a0}
theorem mL {s:a0} {r C x:Nat} {v:AV} {fs:List (Nat×AV)} (h:(fld C x&&Nat.ble fs.length 100)=true):fW (.ref r) x v (s.set r (.inst C fs))=some (s.set r (.inst C (dg x v fs))):=
 (eF aF (Bool.and_eq_true_iff.mp h).1 (Nat.le_of_ble_eq_true (Bool.and_eq_true_iff.mp h).2)).trans (congrArg some set_set)
theorem mR {s:a0} {r C x:Nat} {v:AV} {fs:List (Nat×AV)} (h:s.get r=some (.inst C fs)) (e:(fld C x&&Nat.ble fs.length 100)=true):fW (.ref r) x v s=some (s.set r (.inst C (dg x v fs))):=
 eF h (Bool.and_eq_true_iff.mp e).1 (Nat.le_of_ble_eq_true (Bool.and_eq_true_iff.mp e).2)
theorem y0 {n:Nat} {num:Int} {l:List Nat} (D:aR σ) (hl:l.length≤aw) {Q:AV->a0->Prop} (hQ: ∀σ',Gr no σ σ'->σ'.get σ.n=some (.inst 69 [(4, .int num),(8, .ref (σ.n+1)),(106, .bool false),(89, .int 0)])->σ'.get (σ.n+1)=some (.fL l)->Q .none σ'):callI (n+1) 20 [.ref σ.n, .int num, .bytes l, .bool false, .int 0] (σ.new (.inst 69 [])) Q:=by
 refine aC (bs:= [(103, .ref σ.n),(4, .int num),(8, .bytes l),(106, .bool false),(89, .int 0)]) rfl rfl ?_
 intro R hr hn
 have g1:=Gr.new D (.inst 69 [(4, .int num)])
 have g2:=Gr.new g1.ar (.fL l)
 have h2:=g2.ext _ _ af
 refine a9 (cg (C:=69) rfl) (a9 (if_pos hl:fu 105 [.bytes l] _=some (.ref _,_)) (a9 (mR h2 rfl) (a9 (mL rfl) (a9 (mL rfl) ?_))))
 exact hn _ _ (hQ _ (Gr.bQ D (g1.then g2) (Nat.le_refl _) h2) aF ((av (Nat.succ_ne_self _)).trans af))
theorem zY {n X:Nat} {num:Int} (D:aR σ) (hX:σ.get X=some (.list [])) {Q:AV->a0->Prop} (hQ: ∀σ',Gr no σ σ'->σ'.get σ.n=some (.inst 70 [(4, .int num),(39, .ref (σ.n+1)),(106, .bool false),(89, .int 0)])->σ'.get (σ.n+1)=some (.list [])->Q .none σ'):callI (n+1) 21 [.ref σ.n, .int num, .ref X, .bool false, .int 0] (σ.new (.inst 70 [])) Q:=by
 refine aC (bs:= [(103, .ref σ.n),(4, .int num),(39, .ref X),(106, .bool false),(89, .int 0)]) rfl rfl ?_
 intro R hr hn
 have g1:=Gr.new D (.inst 70 [(4, .int num)])
 have g2:=Gr.new g1.ar (.list [])
 have h2:=g2.ext _ _ af
 refine a9 (cg (C:=70) rfl) (a9 (kZ (g1.ext _ _ hX) (Nat.zero_le _)) (a9 (mR h2 rfl) (a9 (mL rfl) (a9 (mL rfl) ?_))))
 exact hn _ _ (hQ _ (Gr.bQ D (g1.then g2) (Nat.le_refl _) h2) aF ((av (Nat.succ_ne_self _)).trans af))
theorem wj {n:Nat} {num:Int} (D:aR σ) {Q:AV->a0->Prop} (hQ: ∀σ',Gr no σ σ'->σ'.get σ.n=some (.inst 71 [(4, .int num),(107, .int 1),(106, .bool false),(89, .int 0),(21, .int 3),(75, .ref (σ.n+1))])->σ'.get (σ.n+1)=some (.dict [])->Q .none σ'):callI (n+1) 22 [.ref σ.n, .int num, .int 1, .bool false, .int 0] (σ.new (.inst 71 [])) Q:=by
 refine aC (bs:= [(103, .ref σ.n),(4, .int num),(107, .int 1),(106, .bool false),(89, .int 0)]) rfl rfl ?_
 intro R hr hn
 have g1:=Gr.new D (.inst 71 [(4, .int num),(107, .int 1),(106, .bool false),(89, .int 0),(21, .int 3)])
 have g2:=Gr.new g1.ar (.dict [])
 have h2:=g2.ext _ _ af
 refine a9 (cg (C:=71) rfl) (a9 (cg (C:=71) rfl) (a9 (cg (C:=71) rfl) (a9 (cg (C:=71) rfl) (a9 (cg (C:=71) rfl) (a9 (mR h2 rfl) ?_)))))
 exact hn _ _ (hQ _ (Gr.bQ D (g1.then g2) (Nat.le_refl _) h2) aF ((av (Nat.succ_ne_self _)).trans af))
noncomputable def PreR (σ:a0) (num:Int) (bd:Bd) (r:Nat):Prop:=match bd.kd with
 | .str=> ∃ba,σ.get r=some (.inst 69 [(4, .int num),(8, .ref ba),(106, .bool false),(89, .int 0)])/\σ.get ba=some (.fL bd.ocs)
 | .arr=>σ.get r=some (.inst 70 [(4, .int num),(39, .ref (r+1)),(106, .bool false),(89, .int 0)])/\σ.get (r+1)=some (.list [])
 | .az=>σ.get r=some (.inst 71 [(4, .int num),(107, .int 1),(106, .bool false),(89, .int 0),(21, .int 3),(75, .ref (r+1))])/\σ.get (r+1)=some (.dict [])
theorem PreR.keep {num:Int} {bd:Bd} {r:Nat} (h:PreR σ num bd r) (k: ∀i o,σ.get i=some o->σ'.get i=some o):PreR σ' num bd r:=by
 unfold PreR at h⊢
 split at h
 ·obtain ⟨ba,h1,h2⟩:=h;exact ⟨ba,k _ _ h1,k _ _ h2⟩
 ·exact ⟨k _ _ h.1,k _ _ h.2⟩
 ·exact ⟨k _ _ h.1,k _ _ h.2⟩
theorem PreR.bo {num:Int} {bd:Bd} {r x:Nat} {xs:List AV} {o:AO} (h:PreR σ num bd r) (hx:σ.get x=some (.list xs)) (hr:x≠r+1):PreR (σ.set x o) num bd r:=by
 have k: ∀i o',i≠x->σ.get i=some o'->(σ.set x o).get i=some o':=λi o' hi e=>by rw [av hi];exact e
 unfold PreR at h⊢
 split at h
 ·obtain ⟨ba,h1,h2⟩:=h
  exact ⟨ba,k _ _ (λz=>by rw [←z,h1] at hx;cases hx) h1,k _ _ (λz=>by rw [←z,h2] at hx;cases hx) h2⟩
 ·exact ⟨k _ _ (λz=>by rw [←z,h.1] at hx;cases hx) h.1,k _ _ (λz=>hr z.symm) h.2⟩
 ·exact ⟨k _ _ (λz=>by rw [←z,h.1] at hx;cases hx) h.1,k _ _ (λz=>hr z.symm) h.2⟩
structure MB (σ:a0) (MD:Nat) (bs:List Bd) (num:Nat->Int) (k:Nat) (s:a0) (made:List Nat):Prop where
 hM:s.get MD=some (.list (made.map .ref))
 len:made.length=k
 lo: ∀q∈made,σ.n≤q
 pre: ∀i bd q,bs[i]?=some bd->made[i]?=some q->PreR s (num i) bd q
 g:Gr (· =MD) σ s
structure ME (ρ:Loc) (MD d:Nat) (step:Int):Prop where
 nI:ρ 66=some (.ref MD)
 jS:ρ 59=some (.ref d)
 Jj:ρ 72=some (.int step)
noncomputable def vV:List IS:=match cR with|_:: .cY _ _ _ b::_=>b|_=> []
section
variable {MD k d q:Nat} {bs:List Bd} {num:Nat->Int} {s s2:a0} {made:List Nat} {bd:Bd} {ρ:Loc} {C:aD}
theorem MB.app (B:MB σ MD bs num k s made) (aU:bs[k]?=some bd) (hl:bs.length≤8) (pn:MD<σ.n) (g2:Gr no s s2) (hq:σ.n≤q) (pre:PreR s2 (num k) bd q) {Q:AV->a0->Prop} (h: ∀s',MB σ MD bs num (k+1) s' (made++ [q])->Q .none s'):wM C s (.ref MD) 10 [.ref q] s2 Q:=by
 have h2:=g2.ext _ _ B.hM
 have IY:k<bs.length:=(List.getElem?_eq_some_iff.mp aU).1
 have hlen:=B.len
 refine bL ⟨_,B.hM⟩ h2 (jh (cX h2 (by rw [List.length_map];unfold aw;exact MY hl IY hlen)) (h _ ⟨by rw [aF,List.map_append];rfl,by rw [List.length_append,hlen];rfl,λq' nJ=> ?_,λi cP q' hb nJ=> ?_,B.g.then (g2.any.then (Gr.set g2.ar h2 _))⟩))
 ·rcases List.mem_append.mp nJ with h|h
  ·exact B.lo _ h
  ·exact List.mem_singleton.mp h▸hq
 ·by_cases hi:i<made.length
  ·rw [List.getElem?_append_left hi] at nJ
   have:=B.lo q' (List.mem_of_getElem? nJ)
   exact ((B.pre i cP q' hb nJ).keep g2.ext).bo h2 (by exact Cu pn this)
  ·rw [List.getElem?_append_right (by exact C9 hi)] at nJ
   have PK:i-made.length=0:=Nat.lt_one_iff.mp (List.getElem?_eq_some_iff.mp nJ).1
   rw [PK] at nJ
   cases nJ
   have:i=k:=by exact Kk hlen hi PK
   subst this
   cases aU.symm.trans hb
   exact pre.bo h2 (by exact Cu pn hq)
theorem Eh: ∀k:Kd,k≠ .arr-> ¬k.code=15
 | .az,_| .str,_=>by decide
 | .arr,h=>absurd rfl h
theorem xJ {n T:Nat} {step:Int} (B:MB σ MD bs num k s made) (E:ME ρ MD d step) (aU:bs[k]?=some bd) (bok:bk bs bd) (hl:bs.length≤8) (pn:MD<σ.n) (Bh:num k+step=num (k+1)) (h4:ρ 4=some (.int (num k))) (hT:bd.kd= .str->s.get T=some (.list (bd.ocs.map λx=>AV.int ((x:Nat):Int))))
  {K:Fl->Loc->a0->Prop} (hK: ∀ρ2 s2 made2,ME ρ2 MD d step->ρ2 4=some (.int (num (k+1)))->MB σ MD bs num (k+1) s2 made2->K .next ρ2 s2):wSs (callI (n+1)) vV (((ρ.put 13 (.str bd.kd.code)).put 39 (.ref T)).put 21 (.int (bd.ac:Nat))) s K:=by
 have Jk:=B.g.n
 have g:=B.g
 have fin: ∀{s2 made2},MB σ MD bs num (k+1) s2 made2->wSs (callI (n+1)) (vV.drop 1) (((ρ.put 13 (.str bd.kd.code)).put 39 (.ref T)).put 21 (.int (bd.ac:Nat))) s2 K:=λB=>by
  refine aa h4 (aa E.Jj ?_)
  exact hK _ _ _ ⟨E.nI,E.jS,E.Jj⟩ (congrArg (λi=>some (AV.int i)) Bh) B
 by_cases h1:bd.kd= .str
 ·obtain ⟨_,o1,o2⟩:=bok.str h1
  refine bb (by rw [h1];rfl:decide (bd.kd.code=19)=true) (aa E.nI (aa h4 (a9 (jD (hT h1) (λx hx=>by rcases o2 x hx with rfl|rfl<;>decide) (by rw [o1];decide)) (?_:callI _ _ _ _ _))))
  refine y0 g.ar (l:=bd.ocs) (by rw [o1];decide) λs2 g2 t1 t2=>⟨rfl, ?_⟩
  exact B.app aU hl pn g2 Jk (by unfold PreR;rw [h1];exact ⟨_,t1,t2⟩) λs' B'=>fin B'
 ·by_cases h2:bd.kd= .arr
  ·have ge:=Gr.new g.ar (.list [])
   refine aG (decide_eq_false (iY _ h1)) (aa E.nI (bb (by rw [h2];rfl:decide (bd.kd.code=15)=true) (aa h4 (?_:callI _ _ _ _ _))))
   refine zY ge.ar af λs2 g2 t1 t2=>⟨rfl, ?_⟩
   exact B.app aU hl pn (ge.then g2) (Nat.le_succ_of_le Jk) (by unfold PreR;rw [h2];exact ⟨t1,t2⟩) λs' B'=>fin B'
  ·refine aG (decide_eq_false (iY _ h1)) (aa E.nI (aG (decide_eq_false (Eh _ h2)) (aa h4 (?_:callI _ _ _ _ _))))
   refine wj g.ar λs2 g2 t1 t2=>⟨rfl, ?_⟩
   refine B.app aU hl pn g2 Jk ?_ λs' B'=>fin B'
   unfold PreR
   cases h3:bd.kd with
   |str=>exact absurd h3 h1
   |arr=>exact absurd h3 h2
   |az=>exact ⟨t1,t2⟩
theorem EP {n lo B:Nat} {bv:List AV} {step:Int} (D:aR σ) (hB:σ.get B=some (.list bv)) (A:ae (dz σ lo) bs bv) (ok: ∀b∈bs,bk bs b) (hl:bs.length≤8) (ur:σ.get MD=some (.list [])) (kW:B≠MD)
  (E:ME ρ MD d step) (Bh: ∀k,num k+step=num (k+1)) (r4:ρ 4=some (.int (num 0))) {Q:KF} (hQ: ∀ρ' s made,ME ρ' MD d step->MB σ MD bs num bs.length s made->Q .next ρ' s):
  dm (.lst B) (.tup [(.name 13),(.name 39),(.name 21)]) (wSs (callI (n+1)) vV) turns 0 ρ σ Q:=by
 have dE:=A.len
 have pn:MD<σ.n:=D _ _ ur
 refine cw (C:=callI (n+1)) (bv.map ([·])) (λk ρ' s=>(ME ρ' MD d step/\ρ' 4=some (.int (num k)))/\ ∃made,MB σ MD bs num k s made) ?_ ?_ ?_ turns 0 ρ σ (Nat.zero_le _) (by rw [List.length_map,aP];exact Cs hl dE) ⟨⟨E,r4⟩, [],⟨ur,rfl,(λ_ h=>nomatch h),(λ_ _ _ _ h=>by cases h),Gr.refl D⟩⟩
 ·rintro k ρ' s ⟨_,made,M⟩;exact cq (M.g.keep _ _ kW hB)
 ·rintro k ρ' s ws ⟨⟨E',h4⟩,made,M⟩ hx K hK
  refine get_1 hx λv hv=> ?_
  obtain ⟨bd,aU,q,T,_,_,rfl,b4,b5,b6⟩:=A.get hv
  have bok:=ok bd (List.mem_of_getElem? aU)
  refine a9 (gy (M.g.keep _ _ (λz=>by rw [z,ur] at b4;cases b4) b4)) ?_
  refine xJ M E' aU bok hl pn (Bh k) h4 (λz=>M.g.keep _ _ (λe=> ?_) (b5 z)) λρ2 s2 m2 e1 e2 e3=>hK _ _ ⟨⟨e1,e2⟩,m2,e3⟩
  have o1:=(bok.str z).2.1
  have:=(b5 z).symm.trans (e▸ur)
  have:=List.map_eq_nil_iff.mp (AO.list.inj (Option.some.inj this))
  rw [this] at o1
  cases o1
 ·rintro ρ2 σ2 ⟨⟨E',_⟩,made,M⟩
  rw [List.length_map,←dE] at M
  exact hQ _ _ _ E' M
end
end
section
variable {σ σ':a0} {made:List Nat}
noncomputable def fX:AO->Prop
 | .list xs=>xs≠ []
 | .dict es=>es≠ []
 | .inst C _=>C=65∨C=67
 |_=>True
theorem dJ.fq {it:It} {r:Nat} (h:dJ σ made it r) (k: ∀i o,fX o->σ.get i=some o->σ'.get i=some o):dJ σ' made it r:=by
 cases it with
 |num n=>exact k _ _ (.inl rfl) h
 |obj kd b st mn ex ac=>
  obtain ⟨v,a,h1,h2,h3⟩:=h
  refine ⟨v,a,k _ _ (.inl rfl) h1, ?_,h3⟩
  cases kd with
  |az=>exact h2
  |arr=>obtain ⟨r,s,h1,h2,h3⟩:=h2;exact ⟨r,s,h1,h2,k _ _ (.inr rfl) h3⟩
  |str=>obtain ⟨r,s,h1,h2,h3⟩:=h2;exact ⟨r,s,h1,h2,k _ _ (.inr rfl) h3⟩
theorem BdR.fq {n:Int} {bd:Bd} {r:Nat} (h:BdR σ made n bd r) (d0:bd.kd= .arr->bd.aj≠ []) (k: ∀i o,i=r∨fX o->σ.get i=some o->σ'.get i=some o):BdR σ' made n bd r:=by
 unfold BdR at h⊢
 split at h
 ·obtain ⟨ba,h1,h2⟩:=h;exact ⟨ba,k _ _ (.inl rfl) h1,k _ _ (.inr trivial) h2⟩
 ·rename_i hk
  obtain ⟨L,rs,h1,h2,h3⟩:=h
  refine ⟨L,rs,k _ _ (.inl rfl) h1,k _ _ (.inr ?_) h2,h3.imp λ_ _ z=>z.fq λi o g=>k i o (.inr g)⟩
  intro e
  have:=h3.len
  have e2:rs= []:=by simpa using e
  rw [e2] at this
  exact d0 hk (by simpa using this)
 ·obtain ⟨E,kk,p,kt,vt,it,ks,h1,h2,h3,h4,h5,h6,h7,h8⟩:=h
  exact ⟨E,kk,p,kt,vt,it,ks,k _ _ (.inl rfl) h1,k _ _ (.inr (List.cons_ne_nil _ _)) h2,k _ _ (.inr trivial) h3,h4,k _ _ (.inr trivial) h5,k _ _ (.inr (.inl rfl)) h6,h7,h8.fq λi o g=>k i o (.inr g)⟩
theorem PreR.fq {n:Int} {bd:Bd} {r:Nat} (h:PreR σ n bd r) (k: ∀i o,(i=r∨(i=r+1/\(o= .list []∨o= .dict [])))∨fX o->σ.get i=some o->σ'.get i=some o):PreR σ' n bd r:=by
 unfold PreR at h⊢
 split at h
 ·obtain ⟨ba,h1,h2⟩:=h;exact ⟨ba,k _ _ (.inl (.inl rfl)) h1,k _ _ (.inr trivial) h2⟩
 ·exact ⟨k _ _ (.inl (.inl rfl)) h.1,k _ _ (.inl (.inr ⟨rfl, .inl rfl⟩)) h.2⟩
 ·exact ⟨k _ _ (.inl (.inl rfl)) h.1,k _ _ (.inl (.inr ⟨rfl, .inr rfl⟩)) h.2⟩
theorem PreR.inst {n:Int} {bd:Bd} {r:Nat} (h:PreR σ n bd r): ∃C fs,σ.get r=some (.inst C fs)/\flook 4 fs=some (.int n):=by
 unfold PreR at h
 split at h
 ·obtain ⟨ba,h1,h2⟩:=h;exact ⟨_,_,h1,rfl⟩
 ·exact ⟨_,_,h.1,rfl⟩
 ·exact ⟨_,_,h.1,rfl⟩
theorem BdR.inst {n:Int} {bd:Bd} {r:Nat} (h:BdR σ made n bd r): ∃C fs,σ.get r=some (.inst C fs)/\flook 4 fs=some (.int n):=by
 unfold BdR at h
 split at h
 ·obtain ⟨ba,h1,h2⟩:=h;exact ⟨_,_,h1,rfl⟩
 ·obtain ⟨L,rs,h1,_⟩:=h;exact ⟨_,_,h1,rfl⟩
 ·obtain ⟨E,kk,p,kt,vt,it,ks,h1,_⟩:=h;exact ⟨_,_,h1,rfl⟩
theorem DF {a b:Nat} {m n:Int} (h: ∃C fs,σ.get a=some (.inst C fs)/\flook 4 fs=some (.int m)) (h': ∃C fs,σ.get b=some (.inst C fs)/\flook 4 fs=some (.int n)) (hn:m≠n):a≠b:=λe=>by
 subst e
 obtain ⟨C,fs,h1,h2⟩:=h
 obtain ⟨C',W9,h3,h4⟩:=h'
 cases h1.symm.trans h3
 cases h2.symm.trans h4
 exact hn rfl
theorem eH {x:Nat} {o o0:AO} (h:σ.get x=some o0) (hb: ¬fX o0) {P:Nat->AO->Prop} (hx: ¬P x o0): ∀i o',P i o'∨fX o'->σ.get i=some o'->(σ.set x o).get i=some o':=λi o' hp e=>by
 rw [av (λz=>by
  subst z
  cases h.symm.trans e
  exact hp.elim hx hb)]
 exact e
theorem nT {r q k:Nat} {xs ys:List AV} (h:σ.get r=some (.list xs)) (h':σ.get q=some (.list ys)) (hl:xs.length=ys.length):jG (.zip r q) k σ=some (((xs.zip ys).map λp=> [p.1,p.2])[k]?):=by
 refine (aB h).trans ((aB h').trans ?_)
 show (match xs[k]? with|some x=>(match ys[k]? with|some y=>some (some [x,y])|none=>some none)|none=>some none)=_
 rw [List.getElem?_map]
 by_cases hk:k<xs.length
 ·have f9:k<ys.length:=by exact Cm hl hk
  have hz:k<(xs.zip ys).length:=by rw [List.length_zip];exact Cb hl hk
  rw [List.getElem?_eq_getElem hk,List.getElem?_eq_getElem f9,List.getElem?_eq_getElem hz,List.getElem_zip]
  rfl
 ·have hz:(xs.zip ys).length≤k:=by rw [List.length_zip];exact Mr hk
  rw [List.getElem?_eq_none (by exact C9 hk),List.getElem?_eq_none hz]
  rfl
structure FI (σb:a0) (MD:Nat) (made:List Nat) (bs:List Bd) (num:Nat->Int) (k:Nat) (s:a0):Prop where
 g:Gr no σb s
 hM:s.get MD=some (.list (made.map .ref))
 b: ∀i bd q,bs[i]?=some bd->made[i]?=some q->(i<k->BdR s made (num i) bd q)/\(k≤i->PreR s (num i) bd q)
noncomputable def OI (made:List Nat) (bs:List Bd) (num:Nat->Int) (k q:Nat) (s:a0):Prop:= ∀i bd q',bs[i]?=some bd->made[i]?=some q'->i≠k->q'≠q/\(i<k->BdR s made (num i) bd q')/\(k≤i->PreR s (num i) bd q')
section
variable {σb s s2:a0} {MD k d q T:Nat} {bs:List Bd} {num:Nat->Int} {bd:Bd} {ρ:Loc} {n:Nat} {K:Fl->Loc->a0->Prop}
theorem FI.Ge (I:FI σb MD made bs num k s) (inj: ∀a b,num a=num b->a=b) (h: ∃C fs,s.get q=some (.inst C fs)/\flook 4 fs=some (.int (num k))):OI made bs num k q s:=λi bd q' h1 h2 yW=>by
 have b:=I.b i bd q' h1 h2
 refine ⟨DF ?_ h λe=>yW (inj _ _ e),b⟩
 by_cases hl:i<k
 ·exact (b.1 hl).inst
 ·exact (b.2 (Nat.le_of_not_lt hl)).inst
theorem OI.keep (O:OI made bs num k q s) (g:Gr no s s2):OI made bs num k q s2:=λi bd q' h1 h2 h3=>have ⟨a,b,c⟩:=O i bd q' h1 h2 h3;⟨a,λh=>(b h).keep g.ext,λh=>(c h).keep g.ext⟩
theorem OI.Gp {o o0:AO} (O:OI made bs num k q s) (d0: ∀b∈bs,b.kd= .arr->b.aj≠ []) (hE:s.get (q+1)=some o0) (h0: ¬fX o0) (V2: ∀C fs,o0≠ .inst C fs):OI made bs num k q (s.set (q+1) o):=λi bd q' h1 h2 h3=>by
 obtain ⟨a,b,c⟩:=O i bd q' h1 h2 h3
 have ni: ∀{m:Int},(∃C fs,s.get q'=some (.inst C fs)/\flook 4 fs=some (.int m))->q+1≠q':=λ⟨C,fs,h,_⟩ z=>V2 C fs (Option.some.inj (hE.symm.trans (z▸h)))
 exact ⟨a,λh=>(b h).fq (d0 _ (List.mem_of_getElem? h1)) (eH hE h0 (P:=λi _=>i=q') (ni (b h).inst)),λh=>(c h).fq (eH hE h0 λz=>z.elim (ni (c h).inst) λz=>a (Nat.succ.inj z.1).symm)⟩
theorem OI.Qh {o:AO} {fs:List (Nat×AV)} (O:OI made bs num k q s) (d0: ∀b∈bs,b.kd= .arr->b.aj≠ []) (hq:s.get q=some (.inst 71 fs)):OI made bs num k q (s.set q o):=λi bd q' h1 h2 h3=>by
 obtain ⟨a,b,c⟩:=O i bd q' h1 h2 h3
 have ng: ¬fX (.inst 71 fs):=λh=>by rcases h with h|h<;>cases h
 exact ⟨a,λh=>(b h).fq (d0 _ (List.mem_of_getElem? h1)) (eH hq ng (P:=λi _=>i=q') (Ne.symm a)),λh=>(c h).fq (eH hq ng λz=>z.elim (Ne.symm a) λz=>z.2.elim (λz=>by cases z) λz=>by cases z)⟩
theorem FI.next (O:OI made bs num k q s) (aU:bs[k]?=some bd) (hq:made[k]?=some q) (g:Gr no σb s) (hM:s.get MD=some (.list (made.map .ref))) (B:BdR s made (num k) bd q):FI σb MD made bs num (k+1) s:=⟨g,hM,λi cP q' h1 h2=>by
 by_cases yW:i=k
 ·subst yW
  cases aU.symm.trans h1
  cases hq.symm.trans h2
  exact ⟨λ_=>B,λh=>absurd h (Nat.not_succ_le_self _)⟩
 ·obtain ⟨_,b,c⟩:=O i cP q' h1 h2 yW
  exact ⟨λh=>b (by exact NQ yW h),λh=>c (by exact KO h)⟩⟩
noncomputable def vH:List IS:=match cR with|_::_:: .cY _ _ _ b::_=>b|_=> []
noncomputable def qN (ρ:Loc) (q:Nat) (bd:Bd) (T:Nat):Loc:=(((ρ.put 20 (.ref q)).put 13 (.str bd.kd.code)).put 39 (.ref T)).put 21 (.int (bd.ac:Nat))
theorem tD: ¬fX (.list []):=λh=>h rfl
theorem tK: ¬fX (.dict []):=λh=>h rfl
theorem uS (ok: ∀b∈bs,bk bs b): ∀b∈bs,b.kd= .arr->b.aj≠ []:=λb hb hk e=>by
 have:=((ok b hb).arr hk).1
 rw [e] at this
 exact absurd this (by decide)
theorem zU {vs:List AV} {lo:Nat} (Db:aR σb) (I:FI σb MD made bs num k s) (inj: ∀a b,num a=num b->a=b) (aU:bs[k]?=some bd) (hq:made[k]?=some q) (ok: ∀b∈bs,bk bs b) (hl:bs.length≤8) (iq:made.length=bs.length) (nK:MD<q) (kW:σb.n≤MD) (hk:bd.kd= .arr) (c1:s.get T=some (.list vs)) (c2:ae (bt s lo) bd.aj vs) (Jl:ρ 66=some (.ref MD))
  (hK: ∀s',FI σb MD made bs num (k+1) s'->K .next (qN ρ q bd T) s'):wSs (callI (n+2)) vH (qN ρ q bd T) s K:=by
 have P:=(I.b k bd q aU hq).2 (Nat.le_refl _)
 unfold PreR at P
 rw [hk] at P
 obtain ⟨p1,p2⟩:=P
 have bok:=ok bd (List.mem_of_getElem? aU)
 have ba:=bok.arr hk
 have p0:bz (.ref q) 39 s=some (.ref (q+1)):=aQ p1 rfl rfl rfl
 refine bb (by rw [hk];rfl:decide (bd.kd.code=15)=true) (a9 p0 (aa Jl (?_:callI _ _ _ _ _)))
 refine kg (pk:=3) (zs:=bs.map bH) (made:=made) I.g.ar I.hM (iq.trans (List.length_map _).symm) (by rw [List.length_map];exact hl) c1 c2 bok.s.aj ba.2 λF rs s2 hF uu gK g2=> ?_
 have yX:=g2.ext _ _ p2
 have PL:q+1<s.n:=I.g.ar _ _ p2
 have uq:=gK.len
 have Dg:d7 (.ref (q+1)) 74 [.ref F] s2=some (.none,s2.set (q+1) (.list (rs.map .ref))):=by
  refine (aB yX).trans ((aB uu).trans ?_)
  exact if_pos (c:=(F≠q+1/\([]:List AV).length+(rs.map AV.ref).length≤aw)) ⟨by exact CS hF PL,by rw [List.length_map,List.length_nil];unfold aw;exact Lr ba uq⟩
 refine bL ⟨_,p2⟩ yX (jh Dg (hK _ ?_))
 have O:=((I.Ge inj ⟨_,_,p1,rfl⟩).keep g2).Gp (o:= .list (rs.map .ref)) (uS ok) yX tD (λ_ _ h=>by cases h)
 refine FI.next O aU hq (Gr.bQ Db (I.g.then g2) (by exact BQ nK kW) yX) ((av (by exact BY nK)).trans (g2.ext _ _ I.hM)) ?_
 unfold BdR
 rw [hk]
 exact ⟨q+1,rs,(av (Nat.ne_of_lt (Nat.lt_succ_self _))).trans (g2.ext _ _ p1),aF,gK.imp λ_ _ y=>y.fq (σ':=s2.set (q+1) _) λi o g e=>eH yX tD (P:=λ_ _=>False) id i o (.inr g) e⟩
noncomputable def iE (num:Int) (ac:Nat) (E:Nat):AO:= .inst 71 [(4, .int num),(107, .int 1),(106, .bool false),(89, .int 0),(21, .int (ac:Nat)),(75, .ref E)]
theorem Dx {s1 s3:a0} {kt vt:Nat} {it:It} (Db:aR σb) (gs:Gr no σb s1) (g3:Gr no s1 s3) (O:OI made bs num k q s1) (aU:bs[k]?=some bd) (hq:made[k]?=some q) (ok: ∀b∈bs,bk bs b) (nK:MD<q) (kW:σb.n≤MD) (hk:bd.kd= .az) (hit:bd.aj= [it])
  (y1:s1.get q=some (iE (num k) bd.ac (q+1))) (y2:s1.get (q+1)=some (.dict [])) (y3:s1.get MD=some (.list (made.map .ref))) (V3:s3.get kt=some (bP 77 (.bytes [97]) false 3)) (Jm:dJ s3 made it vt) {Q:a0->Prop} (hQ: ∀s',FI σb MD made bs num (k+1) s'->Q s'):
  oB (gi (.ref (q+1)) (.ref (s3.new (.tup [.ref kt, .ref vt])).n) (.ref s3.n) ((s3.new (.tup [.ref kt, .ref vt])).new (.tup [.str 76, .bytes [97]]))) Q:=by
 have g4:=Gr.new g3.ar (.tup [.ref kt, .ref vt])
 have g5:=Gr.new g4.ar (.tup [.str 76, .bytes [97]])
 have G5:=g3.then (g4.then g5)
 have uv:=G5.ext _ _ y2
 have Jn:=g5.ext _ _ (af (σ:=s3) (o:= .tup [.ref kt, .ref vt]))
 have Dh:((s3.new (.tup [.ref kt, .ref vt])).new (.tup [.str 76, .bytes [97]])).get (s3.new (.tup [.ref kt, .ref vt])).n=some (.tup [.str 76, .bytes [97]]):=af
 have Bi:=g5.ext _ _ (g4.ext _ _ V3)
 have Bj:=(Jm.keep g4.ext).keep g5.ext
 have w3:isKey ((s3.new (.tup [.ref kt, .ref vt])).new (.tup [.str 76, .bytes [97]])) (.ref (s3.new (.tup [.ref kt, .ref vt])).n)=true:=by
  show k7 (a0.get _ _)=true
  rw [Dh]
  rfl
 refine a9 (j8 uv (Nat.zero_le _) (m5 w3 rfl)) (hQ _ ?_)
 revert G5 uv Jn Dh Bi Bj
 clear g5 w3
 generalize (s3.new (.tup [.ref kt, .ref vt])).new (.tup [.str 76, .bytes [97]])=s5
 generalize (s3.new (.tup [.ref kt, .ref vt])).n=kk
 intro G5 uv Jn Dh Bi Bj
 have kf:=eH (o:= .dict [(.ref kk, .ref s3.n)]) uv tK (P:=λ_ _=>False) id
 refine FI.next ((O.keep G5).Gp (uS ok) uv tK λ_ _ h=>by cases h) aU hq (Gr.bQ Db (gs.then G5) (by exact BQ nK kW) uv) ((av (by exact BY nK)).trans (G5.ext _ _ y3)) ?_
 unfold BdR
 rw [hk]
 exact ⟨q+1,kk,s3.n,kt,vt,it, [.str 76, .bytes [97]],(av (Nat.ne_of_lt (Nat.lt_succ_self _))).trans (G5.ext _ _ y1),aF,kf _ _ (.inr trivial) Dh,rfl,kf _ _ (.inr trivial) Jn,kf _ _ (.inr (.inl rfl)) Bi,hit,Bj.fq λi o g e=>kf i o (.inr g) e⟩
theorem E6 (h:bd.aj.length=1): ∃it,bd.aj= [it]:=match bd.aj,h with
 | [it],_=>⟨it,rfl⟩
theorem zt {vs:List AV} {lo:Nat} (Db:aR σb) (I:FI σb MD made bs num k s) (inj: ∀a b,num a=num b->a=b) (aU:bs[k]?=some bd) (hq:made[k]?=some q) (ok: ∀b∈bs,bk bs b) (hl:bs.length≤8) (iq:made.length=bs.length) (nK:MD<q) (kW:σb.n≤MD) (hk:bd.kd= .az) (hT:T<σb.n) (c1:σb.get T=some (.list vs)) (c2:ae (bt σb lo) bd.aj vs) (Jl:ρ 66=some (.ref MD))
  (hK: ∀s',FI σb MD made bs num (k+1) s'->K .next (qN ρ q bd T) s'):wSs (callI (n+2)) vH (qN ρ q bd T) s K:=by
 have P:=(I.b k bd q aU hq).2 (Nat.le_refl _)
 unfold PreR at P
 rw [hk] at P
 obtain ⟨p1,p2⟩:=P
 have bok:=ok bd (List.mem_of_getElem? aU)
 obtain ⟨it,hit⟩:=E6 (bok.az hk)
 have PL:q+1<s.n:=I.g.ar _ _ p2
 refine aG (by rw [hk];rfl:decide (bd.kd.code=15)=false) (bb (by rw [hk];rfl:decide (bd.kd.code=16)=true) (a9 (mR p1 rfl) (?_:callI _ _ _ _ _)))
 have gs:=Gr.bQ Db I.g (d:=q) (o:=iE (num k) bd.ac (q+1)) (by exact Mg nK kW) p1
 have y1:(s.set q (iE (num k) bd.ac (q+1))).get q=some (iE (num k) bd.ac (q+1)):=aF
 have y2:=(av (o:=iE (num k) bd.ac (q+1)) (Nat.ne_of_gt (Nat.lt_succ_self q))).trans p2
 have y3:=(av (o:=iE (num k) bd.ac (q+1)) (Nat.ne_of_lt nK)).trans I.hM
 have O:=(I.Ge inj ⟨_,_,p1,rfl⟩).Qh (o:=iE (num k) bd.ac (q+1)) (uS ok) p1
 have Jo:(s.set q (iE (num k) bd.ac (q+1))).n=s.n:=rfl
 show wSs (callI (n+2)) [.dM (.attr (.var 20) 75) (.tup [(.lit (.str 76)),(.lit (.bytes [97]))]) (.tup [(.call (.glob 65) [(.lit (.str 77)),(.lit (.bytes [97])),(.lit (.bool false)),(.lit (.int 3))]),(.idx (.call (.glob 73) [(.var 66),(.var 39)]) (.lit (.int 0)))])] (qN ρ q bd T) (s.set q (iE (num k) bd.ac (q+1))) _
 revert gs y1 y2 y3 O Jo
 generalize s.set q (iE (num k) bd.ac (q+1))=s1
 intro gs y1 y2 y3 O Jo
 refine (?_:callI _ _ _ _ _)
 refine fY ⟨rfl, ?_⟩
 have g2:=Gr.new gs.ar (bP 77 (.bytes [97]) false 3)
 have PM:=gs.then g2
 refine aa Jl (?_:callI _ _ _ _ _)
 refine kg (pk:=3) (zs:=bs.map bH) (made:=made) g2.ar (g2.ext _ _ y3) (iq.trans (List.length_map _).symm) (by rw [List.length_map];exact hl) (PM.ext _ _ c1) (c2.imp λ_ _ y=>y.keep PM.bh) bok.s.aj (by rw [hit];exact Nat.le_of_ble_eq_true rfl) λF rs s3 hF uu gK g3=> ?_
 rw [hit] at gK
 cases gK with
 | @cons _ vt _ _ Jm h=>cases h with
  |nil=>
   have G3:=g2.then g3
   have G4:=G3.then (Gr.new G3.ar (.tup [.ref s1.n, .ref vt]))
   refine a9 (i0 uu) (a9 (aQ (G4.ext _ _ y1) rfl rfl rfl) (?_:oB _ _))
   exact Dx Db gs G3 O aU hq ok nK kW hk hit y1 y2 y3 (g3.ext _ _ af) Jm λs' h=>hK _ h
end
theorem Dv {n lo B MD d:Nat} {step:Int} {σb:a0} {bs:List Bd} {bv:List AV} {num:Nat->Int} {ρ:Loc} (Db:aR σb) (g0:Gr no σb σ) (inj: ∀a b,num a=num b->a=b) (hB:σb.get B=some (.list bv)) (A:ae (dz σb lo) bs bv) (ok: ∀b∈bs,bk bs b) (hl:bs.length≤8)
  (ur:σ.get MD=some (.list (made.map .ref))) (kW:σb.n≤MD) (iq:made.length=bs.length) (hq: ∀q∈made,MD<q) (pre: ∀i bd q,bs[i]?=some bd->made[i]?=some q->PreR σ (num i) bd q) (E:ME ρ MD d step)
  {Q:KF} (hQ: ∀ρ' s,ME ρ' MD d step->s.get MD=some (.list (made.map .ref))->jM s made num bs->Gr no σb s->Q .next ρ' s):
  dm (.zip MD B) (.tup [(.name 20),(.tup [(.name 13),(.name 39),(.name 21)])]) (wSs (callI (n+2)) vH) turns 0 ρ σ Q:=by
 have dE:=A.len
 have dQ:((made.map AV.ref).zip bv).length=bs.length:=by simp;exact Cp iq dE
 refine cw (C:=callI (n+2)) (((made.map AV.ref).zip bv).map λp=> [p.1,p.2]) (λk ρ' s=>ME ρ' MD d step/\FI σb MD made bs num k s) ?_ ?_ ?_ turns 0 ρ σ (Nat.zero_le _) (by rw [List.length_map,dQ,aP];exact LH hl) ⟨E,g0,ur,λi bd q h1 h2=>⟨λh=>absurd h (Nat.not_lt_zero _),λ_=>pre i bd q h1 h2⟩⟩
 ·rintro k ρ' s ⟨_,I⟩
  exact nT I.hM (I.g.ext _ _ hB) (by rw [List.length_map];exact uX iq dE)
 ·rintro k ρ' s ws ⟨E',I⟩ hx K hK
  rw [List.getElem?_map] at hx
  obtain ⟨⟨x,v⟩,hv,rfl⟩:=Option.map_eq_some_iff.mp hx
  obtain ⟨pq,sk⟩:=List.getElem?_zip_eq_some.mp hv
  rw [List.getElem?_map] at pq
  obtain ⟨q,so,rfl⟩:=Option.map_eq_some_iff.mp pq
  obtain ⟨bd,aU,q',T,_,_,rfl,b4,b5,b6⟩:=A.get sk
  have PN:=hq q (List.mem_of_getElem? so)
  refine a9 (gy (I.g.ext _ _ b4)) ?_
  refine (?_:wSs _ _ (qN ρ' q bd T) _ _)
  have Jp: ∀s',FI σb MD made bs num (k+1) s'->K .next (qN ρ' q bd T) s':=λs' h=>hK _ _ ⟨⟨E'.nI,E'.jS,E'.Jj⟩,h⟩
  cases aW:bd.kd with
  |str=>
   refine aG (by rw [aW];rfl:decide (bd.kd.code=15)=false) (aG (by rw [aW];rfl:decide (bd.kd.code=16)=false) ?_)
   have P:=(I.b k bd q aU so).2 (Nat.le_refl _)
   have P':=P
   unfold PreR at P'
   rw [aW] at P'
   exact Jp _ (FI.next (I.Ge inj P.inst) aU so I.g I.hM (by unfold BdR;rw [aW];exact P'))
  |arr=>
   obtain ⟨vs,c1,c2⟩:=b6 (by rw [aW];decide)
   exact zU Db I inj aU so ok hl iq PN kW aW (I.g.ext _ _ c1) (c2.imp λ_ _ y=>y.keep I.g.bh) E'.nI Jp
  |az=>
   obtain ⟨vs,c1,c2⟩:=b6 (by rw [aW];decide)
   exact zt Db I inj aU so ok hl iq PN kW aW (Db _ _ c1) c1 c2 E'.nI Jp
 ·rintro ρ2 σ2 ⟨E',I⟩
  refine hQ _ _ E' I.hM ⟨iq,λ{i b r} hb hr=>(I.b i b r hb hr).1 ?_⟩ I.g
  rw [List.length_map,dQ]
  exact (List.getElem?_eq_some_iff.mp hb).1
end
section
variable {σ σ':a0}
structure y9 (σ:a0) (num:Nat->Int) (sh:Sh) (mch:Nat) (made rs:List Nat) (st L:Nat):Prop where
 mr:jM σ made num sh.bs
 a1:bz (.ref mch) 38 σ=some (.ref st)
 a2:bz (.ref st) 39 σ=some (.ref L)
 l:σ.get L=some (.list (rs.map .ref))
 th:ae (dJ σ made) sh.st rs
 m1: ∃C fs,σ.get mch=some (.inst C fs)
 m2: ∃C fs,σ.get st=some (.inst C fs)
theorem y9.keep {num:Nat->Int} {sh:Sh} {mch st L:Nat} {made rs:List Nat} (h:y9 σ num sh mch made rs st L) (k: ∀i o,σ.get i=some o->σ'.get i=some o):y9 σ' num sh mch made rs st L:=
 ⟨h.mr.keep k,dx h.a1 λi _ _=>k i _,dx h.a2 λi _ _=>k i _,k _ _ h.l,h.th.imp λ_ _ z=>z.keep k,let ⟨C,fs,e⟩:=h.m1;⟨C,fs,k _ _ e⟩,let ⟨C,fs,e⟩:=h.m2;⟨C,fs,k _ _ e⟩⟩
theorem Ec {n st L r:Nat} {xs:List AV} (h:σ.get st=some (.inst 80 [(107, .int 40),(39, .ref L)])) (hL:σ.get L=some (.list xs)) (hx:xs.length<40) {Q:AV->a0->Prop} (hQ:Q .none (σ.set L (.list (xs++ [.ref r])))):callI (n+1) 34 [.ref st, .ref r] σ Q:=by
 refine aC (bs:= [(103, .ref st),(12, .ref r)]) rfl rfl ?_
 intro R hr hn
 have PO:bz (.ref st) 39 σ=some (.ref L):=aQ h rfl rfl rfl
 have a107:bz (.ref st) 107 σ=some (.int 40):=aQ h rfl rfl rfl
 refine a9 PO (a9 (len_list hL (by unfold aw;exact O7 hx)) (a9 a107 (aG (decide_eq_false (show¬((40:Int)≤(xs.length:Nat)) by exact Me hx)) (a9 PO (bL ⟨_,hL⟩ hL (a9 (cX hL (by unfold aw;exact Mi hx)) ?_))))))
 exact hn _ _ hQ
noncomputable def LC:List IS:=cR.drop 3
theorem Ef {n d lo:Nat} {sh:Sh} {num:Nat->Int} {step:Int} {ρ:Loc} {σ4:a0} {made:List Nat} {R:Fl->Loc->a0->Prop} (D:aR σ) (h:fN σ lo sh d) (W:WF sh) (E:ME ρ σ.n d step) (k1:σ4.get σ.n=some (.list (made.map .ref))) (k2:jM σ4 made num sh.bs) (g4:Gr no σ σ4)
  (hQ: ∀mch rs st L ρ' σ',ρ' 37=some (.ref mch)->y9 σ' num sh mch made rs st L->Gr no σ σ'->wSs (callI (n+2)) (cR.drop 5) ρ' σ' R):wSs (callI (n+2)) LC ρ σ4 R:=by
 obtain ⟨B,bv,S,sv,h1,h2,h3,h4,h5,h6,h7,h8⟩:=h
 have w1:=W.nb
 have w2:=W.ns
 have V4:=E.nI
 have V5:=E.jS
 refine (?_:callI _ _ _ _ _)
 refine lQ g4.ar λσ5 g5=>⟨rfl, ?_⟩
 refine (?_:callI _ _ _ _ _)
 refine t6 g5.ar (Gr.refl g5.ar) λσ6 g6=>⟨rfl, ?_⟩
 refine (?_:callI _ _ _ _ _)
 refine vz g6.ar λσ7 g7 t1 t2=>⟨rfl, ?_⟩
 refine (?_:callI _ _ _ _ _)
 refine lQ g7.ar λσ8 g8=>⟨rfl, ?_⟩
 refine (?_:callI _ _ _ _ _)
 have g9:=Gr.new g8.ar (.dict ((List.map AV.str []).zip []))
 refine wh g9.ar rfl λσ10 Jq ha hm=>⟨rfl, ?_⟩
 have G48:=g8.then (g9.then Jq)
 have G410:=g5.then (g6.then (g7.then G48))
 have G10:=g4.then G410
 have n6:=Nat.le_trans g5.n g6.n
 have V6:=G48.ext _ _ t1
 have PQ:=G48.ext _ _ t2
 refine aa V4 (aa V5 (a9 (qA (G10.ext _ _ h4)) (?_:callI _ _ _ _ _)))
 refine kg (pk:=3) (zs:=sh.bs.map bH) (made:=made) G10.ar (G410.ext _ _ k1) (k2.len.trans (List.length_map _).symm) (by rw [List.length_map];exact w1.2) (G10.ext _ _ h7) (h8.imp λ_ _ y=>y.keep G10.bh) (λit hi=>(W.st it hi).s) w2.2 λF rs σ11 hF uu gK uw=> ?_
 have uq:=gK.len
 have Di:=uw.ext _ _ V6
 have J1:=uw.ext _ _ PQ
 have V7:F≠σ6.n+1:=by have:=G10.ar _ _ PQ;exact CS hF this
 have Sr:σ.n≤σ6.n+1:=by have:=g4.n;exact Nk n6 this
 have Jr:=dx ha (σ':=σ11) λi C fs e=>uw.ext _ _ e
 refine a9 (cI uu) (?_:dm _ _ _ _ _ _ _ _)
 refine cw (C:=callI (n+2)) ((rs.map AV.ref).map ([·])) (λk ρ s=>ρ 37=some (.ref (σ8.new (.dict ((List.map AV.str []).zip []))).n)/\(Gr no σ s/\Gr no σ4 s)/\s.get F=some (.list (rs.map .ref))/\s.get (σ6.n+1)=some (.list ((rs.take k).map .ref))/\ ∀i C fs,σ11.get i=some (.inst C fs)->s.get i=some (.inst C fs)) ?_ ?_ ?_ turns 0 _ _ (Nat.zero_le _) (by rw [List.length_map,List.length_map,aP];exact BB w2 uq) ⟨rfl,⟨G10.then uw,G410.then uw⟩,uu,J1,λ_ _ _ e=>e⟩
 ·rintro k ρ s ⟨_,_,h,_⟩;exact cq h
 ·rintro k ρ s ws ⟨ux,⟨gg,Js⟩,PR,sq,hi⟩ hx K hK
  refine get_m hx λx yL=> ?_
  refine (?_:wSs _ _ _ _ _)
  refine aa ux (a9 (dx Jr hi) (cV (f:=34) (hi _ _ _ Di) rfl rfl (?_:callI _ _ _ _ _)))
  refine Ec (hi _ _ _ Di) sq (by rw [List.length_map,List.length_take];exact NU w2 uq) (hK _ _ ⟨ux,⟨Gr.bQ D gg Sr sq,Gr.bQ g4.ar Js (by exact vI n6) sq⟩,(av V7).trans PR, ?_,λi C fs e=>mj sq i C fs (hi i C fs e)⟩)
  rw [aF,List.take_add_one,yL,List.map_append]
  rfl
 ·rintro ρ5 σ12 ⟨ux,⟨gg,Js⟩,PR,sq,hi⟩
  rw [List.length_map,List.length_map,List.take_length] at sq
  obtain ⟨fs,hm⟩:=hm
  exact hQ _ rs σ6.n (σ6.n+1) _ _ ux ⟨k2.keep Js.ext,dx Jr hi,aQ (hi _ _ _ Di) rfl rfl rfl,sq,gK.imp λ_ _ y=>y.uH hi,⟨_,_,hi _ _ _ (uw.ext _ _ hm)⟩,⟨_,_,hi _ _ _ Di⟩⟩ gg
theorem mV {n lo d:Nat} {sh:Sh} {first step:Int} (D:aR σ) (h:fN σ lo sh d) (W:WF sh) (inj: ∀a b:Nat,first+step*(a:Int)=first+step*(b:Int)->a=b)
  {Q:AV->a0->Prop} (hQ: ∀mch made rs st L σ',y9 σ' (λi=>first+step*(i:Nat)) sh mch made rs st L->Gr no σ σ'->Q (.ref mch) σ'):callI (n+3) 16 [.ref d, .int first, .int step] σ Q:=by
 have h':=h
 obtain ⟨B,bv,S,sv,h1,h2,h3,h4,h5,h6,h7,h8⟩:=h
 have w1:=W.nb
 refine aC (bs:= [(59, .ref d),(68, .int first),(72, .int step)]) rfl rfl ?_
 intro R hr hn
 have g1:=Gr.new D (.list [])
 have g2:=Gr.new g1.ar (.tup [.ref σ.n, .int first])
 have G2:=g1.then g2
 refine a9 (cQ af) (a9 (gw (G2.ext _ _ h4)) (a9 (cI (G2.ext _ _ h5)) (?_:dm _ _ _ _ _ _ _ _)))
 refine EP (n:=n+1) (MD:=σ.n) (d:=d) (step:=step) (num:=λi=>first+step*(i:Nat)) G2.ar (G2.ext _ _ h5) (h6.imp λ_ _ y=>y.keep G2.bh) W.ok w1.2 (g2.ext _ _ af) (Nat.ne_of_lt (D _ _ h5)) ⟨rfl,rfl,rfl⟩ (λk=> ?_) ?_ λρ3 σ3 made E3 M=> ?_
 ·show first+step*((k:Nat):Int)+step=first+step*((k+1:Nat):Int)
  rw [Int.natCast_succ,Int.mul_add,Int.mul_one,Int.add_assoc]
 ·exact congrArg (λi=>some (AV.int i)) (by rw [Int.natCast_zero,Int.mul_zero,Int.add_zero])
 have G3:Gr no σ σ3:=G2.trans M.g (λ_ z=>z) λi o e z=>absurd (D _ _ e) (by exact KR z)
 refine aa E3.nI (aa E3.jS (a9 (gw (G3.ext _ _ h4)) (a9 (rq M.hM (G3.ext _ _ h5)) (?_:dm _ _ _ _ _ _ _ _))))
 refine Dv (n:=n) (num:=λi=>first+step*(i:Nat)) (bs:=sh.bs) (lo:=lo) D G3 inj h5 h6 W.ok w1.2 M.hM (Nat.le_refl _) M.len (λq hq=>Nat.lt_of_succ_lt (M.lo q hq)) M.pre E3 λρ4 σ4 E4 k1 k2 g4=> ?_
 refine Ef D h' W E4 k1 k2 g4 λmch rs st L ρ' σ' ux mc gg=> ?_
 refine aa ux ?_
 exact hr _ _ _ (hQ _ _ _ _ _ _ mc gg)
end
noncomputable abbrev KK (s s':TS):List (Nat×Nat):=s.known.zip s'.known
noncomputable def iP (nr fr:Sh) (K:List (Nat×Nat)):It->It->Prop
 | .num a, .num b=>a=b
 | .obj kd i st mn ex ac, .obj bM j st' mn' ex' ac'=>kd=bM/\ex=ex'/\(kd≠ .az->st=st'/\mn=mn'/\ac=ac')/\(kd= .az->(nr.bs.getD i aY).ac=(fr.bs.getD j aY).ac)/\(i,j)∈K/\(kd= .str->(nr.bs.getD i aY).ocs=(fr.bs.getD j aY).ocs)
 |_,_=>False
noncomputable def deep (s:TS) (m:Nat):It->Prop
 | .num _=>True
 | .obj kd i _ _ _ _=>kd≠ .str->m≤s.left i
noncomputable def dj (nr fr:Sh) (s s':TS) (m:Nat) (x y:It):Prop:=iP nr fr (KK s s') x y/\deep s m x
noncomputable def Ch (nr fr:Sh) (s s':TS) (p:Nat×Nat):Prop:=ae (dj nr fr s s' (s.left p.1-1)) (nr.bs.getD p.1 aY).aj (fr.bs.getD p.2 aY).aj
structure Lock (nr fr:Sh) (s s':TS):Prop where
 len:s.known.length=s'.known.length
 nd:s.known.Nodup
 Jt:s'.known.Nodup
 lf: ∀p∈KK s s',s.left p.1=s'.left p.2
 z: ∀i,i∉s.known->s.left i=0
 z': ∀i,i∉s'.known->s'.left i=0
 oc: ∀p∈KK s s',(nr.bs.getD p.1 aY).kd= .str->(nr.bs.getD p.1 aY).ocs=(fr.bs.getD p.2 aY).ocs
structure dX (nr fr:Sh) (s s' s1 gN:TS):Prop where
 sub: ∀p∈KK s s',p∈KK s1 gN
 left: ∀i,s.left i≤s1.left i
 ch: ∀p∈KK s1 gN,s1.left p.1=s.left p.1∨Ch nr fr s1 gN p
section
variable {nr fr:Sh}
theorem iP.mono {K K':List (Nat×Nat)} (h: ∀p∈K,p∈K'): ∀{x y:It},iP nr fr K x y->iP nr fr K' x y
 | .num _, .num _,e=>e
 | .obj .., .obj ..,⟨a,b,c,d,e,f⟩=>⟨a,b,c,d,h _ e,f⟩
 | .num _, .obj ..,e=>e
 | .obj .., .num _,e=>e
theorem deep.mono {s s1:TS} {m m':Nat} (h: ∀i,s.left i≤s1.left i) (hm:m'≤m): ∀{x:It},deep s m x->deep s1 m' x
 | .num _,_=>trivial
 | .obj ..,e=>λq=>Nat.le_trans hm (Nat.le_trans (e q) (h _))
theorem dj.mono {s s' s1 gN:TS} {m m':Nat} (h: ∀p∈KK s s',p∈KK s1 gN) (hl: ∀i,s.left i≤s1.left i) (hm:m'≤m) {x y:It} (c:dj nr fr s s' m x y):dj nr fr s1 gN m' x y:=⟨c.1.mono h,c.2.mono hl hm⟩
theorem dX.refl {s s':TS}:dX nr fr s s' s s':=⟨λ_ h=>h,λ_=>Nat.le_refl _,λ_ _=> .inl rfl⟩
theorem cf {α β:Type}: ∀{l:List α} {m:List β} {p:α×β},p∈l.zip m->p.1∈l
 |a::l,b::m,p,h=>by
  rcases List.mem_cons.mp h with rfl|h
  ·simp
  ·exact List.mem_cons_of_mem _ (cf h)
theorem bS {α β:Type}: ∀{l:List α} {m:List β} {p:α×β},p∈l.zip m->p.2∈m
 |a::l,b::m,p,h=>by
  rcases List.mem_cons.mp h with rfl|h
  ·simp
  ·exact List.mem_cons_of_mem _ (bS h)
theorem zip_inj {α β:Type}: ∀{l:List α} {m:List β},l.Nodup->m.Nodup-> ∀{p q:α×β},p∈l.zip m->q∈l.zip m->(p.1=q.1↔p.2=q.2)
 |a::l,b::m,n1,n2,p,q,h1,h2=>by
  obtain ⟨a1,a2⟩:=List.nodup_cons.mp n1
  obtain ⟨b1,b2⟩:=List.nodup_cons.mp n2
  rcases List.mem_cons.mp h1 with rfl|h1
  ·rcases List.mem_cons.mp h2 with rfl|h2
   ·simp
   ·exact ⟨λe=>absurd (by simp only at e;rw [e];exact cf h2) a1,λe=>absurd (by simp only at e;rw [e];exact bS h2) b1⟩
  ·rcases List.mem_cons.mp h2 with rfl|h2
   ·exact ⟨λe=>absurd (by simp only at e;rw [←e];exact cf h1) a1,λe=>absurd (by simp only at e;rw [←e];exact bS h1) b1⟩
   ·exact zip_inj a2 b2 h1 h2
theorem Lock.inj {s s':TS} (L:Lock nr fr s s') {p q:Nat×Nat} (h1:p∈KK s s') (h2:q∈KK s s'):p.1=q.1↔p.2=q.2:=zip_inj L.nd L.Jt h1 h2
theorem dX.trans {s s' s1 gN s2 Ju:TS} (L1:Lock nr fr s1 gN) (L:Lock nr fr s s') (L2:Lock nr fr s2 Ju) (a:dX nr fr s s' s1 gN) (b:dX nr fr s1 gN s2 Ju):dX nr fr s s' s2 Ju:=by
 refine ⟨λp h=>b.sub p (a.sub p h),λi=>Nat.le_trans (a.left i) (b.left i),λp hp=> ?_⟩
 rcases b.ch p hp with h|h
 ·by_cases hk:p.1∈s1.known
  ·obtain ⟨k,PS,ij⟩:=List.getElem_of_mem hk
   have Ss:k<gN.known.length:=by rw [←L1.len];exact PS
   have hq:(p.1,gN.known[k])∈KK s1 gN:=by
    rw [←ij]
    exact List.mem_iff_getElem.mpr ⟨k,by simp;exact MC PS Ss,by simp⟩
   have e:=(L2.inj hp (b.sub _ hq)).mp rfl
   have yY:p∈KK s1 gN:=by
    have:p=(p.1,gN.known[k]):=Prod.ext rfl e
    rw [this];exact hq
   rcases a.ch p yY with h'|h'
   ·exact .inl (h.trans h')
   ·refine .inr ?_
    unfold Ch at h'⊢
    rw [h]
    exact h'.imp λ_ _ c=>c.mono b.sub b.left (Nat.le_refl _)
  ·have h0:=L1.z _ hk
   have:=a.left p.1
   exact .inl (by exact MI h h0 this)
 ·exact .inr h
theorem kM {s:TS} {b:Nat} (h:b∈s.known):meet s b=s/\s.known.idxOf b<s.known.length:=⟨by simp [meet,h],List.idxOf_lt_length_iff.mpr h⟩
theorem oe {s:TS} {b:Nat} (h:b∉s.known):(meet s b).known=s.known++ [b]/\(meet s b).left=s.left/\(meet s b).known.idxOf b=s.known.length:=by
 have e:meet s b=⟨s.known++ [b],s.left⟩:=by simp [meet,h]
 rw [e]
 refine ⟨rfl,rfl, ?_⟩
 rw [List.idxOf_append,if_neg h]
 simp
theorem fA {s:TS} {b:Nat}:(meet s b).left=s.left:=by unfold meet;split<;>rfl
theorem zB {α β:Type} {l:List α} {m:List β} {a:α} {b:β} (h:l.length=m.length):(l++ [a]).zip (m++ [b])=l.zip m++ [(a,b)]:=by
 rw [List.zip_append h];rfl
theorem tV {s s':TS} {i j:Nat} (L:Lock nr fr s s') (hi:(meet s i).known.idxOf i=(meet s' j).known.idxOf j):
  (i∈s.known↔j∈s'.known)/\(i,j)∈KK (meet s i) (meet s' j)/\((i∉s.known->(nr.bs.getD i aY).kd= .str->(nr.bs.getD i aY).ocs=(fr.bs.getD j aY).ocs)->Lock nr fr (meet s i) (meet s' j)/\dX nr fr s s' (meet s i) (meet s' j))/\s.left i=s'.left j:=by
 by_cases h:i∈s.known
 ·obtain ⟨e1,l1⟩:=kM h
  by_cases h':j∈s'.known
  ·obtain ⟨e2,l2⟩:=kM h'
   rw [e1,e2] at hi⊢
   have hm:(i,j)∈KK s s':=by
    refine List.mem_iff_getElem.mpr ⟨s.known.idxOf i,by simp;rw [←L.len];exact Kb l1, ?_⟩
    rw [List.getElem_zip]
    have a1:s.known[s.known.idxOf i]=i:=List.getElem_idxOf l1
    have a2:s'.known[s'.known.idxOf j]=j:=List.getElem_idxOf l2
    simp only [a1,Prod.mk.injEq,true_and]
    simp only [hi,a2]
   exact ⟨⟨λ_=>h',λ_=>h⟩,hm,λ_=>⟨L,dX.refl⟩,L.lf _ hm⟩
  ·obtain ⟨f1,f2,f3⟩:=oe h'
   rw [e1,f3] at hi
   have:=L.len
   omega
 ·obtain ⟨e1,e2,e3⟩:=oe h
  by_cases h':j∈s'.known
  ·obtain ⟨f1,l2⟩:=kM h'
   rw [e3,f1] at hi
   have:=L.len
   omega
  ·obtain ⟨f1,f2,f3⟩:=oe h'
   have hK:KK (meet s i) (meet s' j)=KK s s'++ [(i,j)]:=by
    show (meet s i).known.zip (meet s' j).known=_
    rw [e1,f1,zB L.len]
   have hl:s.left i=s'.left j:=by rw [L.z _ h,L.z' _ h']
   refine ⟨⟨λz=>absurd z h,λz=>absurd z h'⟩,by rw [hK];simp,λJv=>⟨⟨by rw [e1,f1];simp [L.len], ?_, ?_, ?_, ?_, ?_, ?_⟩,⟨λp hp=>by rw [hK];exact List.mem_append_left _ hp,λi'=>by rw [e2];exact Nat.le_refl _,λp _=> .inl (by rw [e2])⟩⟩,hl⟩
   ·rw [e1];exact List.nodup_append.mpr ⟨L.nd,by simp,λx hx y hy=>by simp at hy;subst hy;exact λz=>h (z▸hx)⟩
   ·rw [f1];exact List.nodup_append.mpr ⟨L.Jt,by simp,λx hx y hy=>by simp at hy;subst hy;exact λz=>h' (z▸hx)⟩
   ·intro p hp
    rw [hK] at hp
    rw [e2,f2]
    rcases List.mem_append.mp hp with hp|hp
    ·exact L.lf p hp
    ·simp at hp;subst hp;exact hl
   ·intro i' dR;rw [e1] at dR;rw [e2];exact L.z _ λz=>dR (List.mem_append_left _ z)
   ·intro i' dR;rw [f1] at dR;rw [f2];exact L.z' _ λz=>dR (List.mem_append_left _ z)
   ·intro p hp
    rw [hK] at hp
    rcases List.mem_append.mp hp with hp|hp
    ·exact L.oc p hp
    ·simp at hp;subst hp;exact Jv h
theorem DA {s s':TS} {i j v:Nat} (L:Lock nr fr s s') (h:(i,j)∈KK s s'):Lock nr fr (bo s i v) (bo s' j v):=by
 refine ⟨L.len,L.nd,L.Jt,λp hp=> ?_,λi' dR=> ?_,λi' dR=> ?_,L.oc⟩
 ·have e:=L.inj (p:=p) (q:=(i,j)) hp h
  simp only [bo]
  by_cases h1:p.1=i
  ·rw [if_pos h1,if_pos (e.mp h1)]
  ·rw [if_neg h1,if_neg λz=>h1 (e.mpr z)];exact L.lf p hp
 ·simp only [bo]
  rw [if_neg λz=>dR (by rw [z];exact cf h)];exact L.z _ dR
 ·simp only [bo]
  rw [if_neg λz=>dR (by rw [z];exact bS h)];exact L.z' _ dR
end
section
variable {nr fr:Sh}
theorem dX.qm {s s':TS} {i j v:Nat} (hv:s.left i≤v):(∀p∈KK s s',p∈KK (bo s i v) (bo s' j v))/\ ∀i',s.left i'≤(bo s i v).left i':=by
 refine ⟨λp h=>h,λi'=> ?_⟩
 simp only [bo]
 split
 ·rename_i h;subst h;exact hv
 ·exact Nat.le_refl _
theorem B9 {a b:Nat} (h1:a=97∨a=98) (h2:b=97∨b=98) (q:hx (a%16)=hx (b%16)):a=b:=by
 rcases h1 with rfl|rfl<;>rcases h2 with rfl|rfl<;>first|rfl|exact nomatch q
theorem B6 {l:List Nat}: ∀{m:List Nat},(∀x∈l,x=97∨x=98)->(∀x∈m,x=97∨x=98)->l.length=m.length-> ∀{u u'},dK l++u=dK m++u'->l=m/\u=u':=by
 induction l with
 |nil=>intro m h1 h2 e u u' h;cases List.eq_nil_of_length_eq_zero e.symm;exact ⟨rfl,h⟩
 |cons a l ih=>
  intro m h1 h2 e u u' h
  obtain ⟨b,m,rfl⟩:=List.exists_cons_of_length_eq_add_one e.symm
  obtain ⟨q2,q3⟩:=List.cons.inj (List.tail_eq_of_cons_eq h)
  obtain ⟨r1,r2⟩:=ih (λx hx=>h1 x (List.mem_cons_of_mem _ hx)) (λx hx=>h2 x (List.mem_cons_of_mem _ hx)) (Nat.succ.inj e) q3
  exact ⟨r1▸B9 (h1 a List.mem_cons_self) (h2 b List.mem_cons_self) q2▸rfl,r2⟩
structure Out (nr fr:Sh) (s s':TS) (u u':List Nat) (t t':TS) (C:Prop):Prop where
 e:u=u'
 L:Lock nr fr t t'
 M:dX nr fr s s' t t'
 C:C
noncomputable def v7 (nr fr:Sh) (w w':List It->TS->List (List Nat)×TS) (m:Nat):Prop:= ∀(pre:List Nat) (xs ys:List It) (s s':TS) (u u':List Nat),xs.length=ys.length->Lock nr fr s s'->(∀x∈xs,aZ nr.bs x)->(∀y∈ys,aZ fr.bs y)->
 joinB [32] ((w xs s).1.map (pre++ ·))++u=joinB [32] ((w' ys s').1.map (pre++ ·))++u'->Out nr fr s s' u u' (w xs s).2 (w' ys s').2 (ae (dj nr fr (w xs s).2 (w' ys s').2 m) xs ys)
noncomputable def One (nr fr:Sh) (f f':It->TS->List Nat×TS) (m:Nat):Prop:= ∀(s s':TS) (x y:It) (u u':List Nat),Lock nr fr s s'->aZ nr.bs x->aZ fr.bs y->(f x s).1++u=(f' y s').1++u'->Out nr fr s s' u u' (f x s).2 (f' y s').2 (dj nr fr (f x s).2 (f' y s').2 m x y)
noncomputable def Res (nr fr:Sh) (s s':TS) (m:Nat) (x y:It) (P P':List Nat×TS):Prop:= ∀u u':List Nat,P.1++u=P'.1++u'->Out nr fr s s' u u' P.2 P'.2 (dj nr fr P.2 P'.2 m x y)
theorem nY {bs um:List Bd} (ok: ∀b∈bs,bk bs b) (fR: ∀b∈um,bk um b) {kd:Kd} {i st mn j st' mn':Nat} {ex ex':Bool} {ac ac':Nat} (hs:kd≠ .str) (h:aZ bs (.obj kd i st mn ex ac)) (h':aZ um (.obj kd j st' mn' ex' ac')) (he:kd≠ .az->st=st'/\mn=mn'):(bs.getD i aY).aj.length=(um.getD j aY).aj.length:=by
 obtain ⟨⟨b,a1,a2,a3⟩,_⟩:=h
 obtain ⟨⟨b',c1,c2,c3⟩,_⟩:=h'
 rw [aI a1,aI c1]
 have o:=ok b (List.mem_of_getElem? a1)
 have o':=fR b' (List.mem_of_getElem? c1)
 cases kd with
 |str=>exact absurd rfl hs
 |az=>rw [o.az a2,o'.az c2]
 |arr=>
  obtain ⟨e1,e2⟩:=he (by decide)
  simp [Bd.size,a2] at a3
  simp [Bd.size,c2] at c3
  exact NP e1 e2 a3 c3
theorem u0 {k e c:Nat} {kd:Kd} {S u u':List Nat} (h:([108]++kx++ [48+k])++u=([e]++kd.fM++ [c]++S)++u'):False:=by
 cases kd<;>exact nomatch (List.cons.inj (List.tail_eq_of_cons_eq h)).1
theorem DL {kd bM:Kd} {a b:List Nat} (h:kd.fM++a=bM.fM++b):kd=bM:=by
 cases kd<;>cases bM<;>first|rfl|exact nomatch (List.cons.inj h).1
theorem HW {ex ex':Bool} (h:(if ex then 120 else 108)=if ex' then 120 else 108):ex=ex':=by
 cases ex<;>cases ex'<;>first|rfl|exact nomatch h
theorem bZ {a b:Nat} {l m u v:List Nat} (h:(a::l)++u=(b::m)++v):a=b/\l++u=m++v:=List.cons.inj h
theorem EZ {e e' c c':Nat} {kd bM:Kd} {S S' u u':List Nat} (h:([e]++kd.fM++ [c]++S)++u=([e']++bM.fM++ [c']++S')++u'):e=e'/\kd=bM/\c=c'/\S++u=S'++u':=by
 obtain ⟨h1,h2⟩:=bZ h
 change (kd.fM++ [c]++S)++u=(bM.fM++ [c']++S')++u' at h2
 rw [List.append_assoc,List.append_assoc,List.append_assoc _ S',List.append_assoc bM.fM] at h2
 obtain rfl:=DL h2
 obtain ⟨h3,h4⟩:=bZ (List.append_cancel_left h2)
 exact ⟨h1,rfl,h3,h4⟩
theorem fz {s s':TS} {kd:Kd} {i j st st' mn mn':Nat} {v v':List Nat} (e:ahead s kd i st mn++v=ahead s' kd j st' mn'++v'):(meet s i).known.idxOf i=(meet s' j).known.idxOf j/\(kd≠ .az->st=st'/\mn=mn')/\v=v':=by
 unfold ahead at e
 by_cases hd:kd= .az
 ·rw [if_pos hd,if_pos hd] at e
  obtain ⟨_,e⟩:=bZ e
  obtain ⟨e,z⟩:=bZ e
  exact ⟨l0 e,λz=>absurd hd z,z⟩
 ·rw [if_neg hd,if_neg hd] at e
  obtain ⟨_,e⟩:=bZ e
  obtain ⟨e,z⟩:=bZ e
  obtain ⟨_,z⟩:=bZ z
  obtain ⟨e2,z⟩:=bZ z
  obtain ⟨_,z⟩:=bZ z
  obtain ⟨e3,z⟩:=bZ z
  exact ⟨l0 e,λ_=>⟨l0 e2,l0 e3⟩,z⟩
theorem lj {kd:Kd} {i j ac ac' st st' mn mn':Nat} {ex:Bool} {b:Bd} (ha:fy nr kd i ac=fy fr kd j ac') (a1:nr.bs[i]?=some b) (a2:b.kd=kd) {t t':TS} (Lt:Lock nr fr t t') (sr:kd≠ .az->st=st'/\mn=mn') (hm:(i,j)∈KK t t'):
  iP nr fr (KK t t') (.obj kd i st mn ex ac) (.obj kd j st' mn' ex ac'):=by
 unfold fy at ha
 refine ⟨rfl,rfl,λhd=>⟨(sr hd).1,(sr hd).2, ?_⟩,λhd=> ?_,hm,λhk=>Lt.oc _ hm ?_⟩
 ·rwa [if_neg hd,if_neg hd] at ha
 ·rwa [if_pos hd,if_pos hd] at ha
 ·show (nr.bs.getD i aY).kd= .str
  rw [aI a1,a2,hk]
noncomputable def oS (sh:Sh) (s:TS) (b:Nat):List Nat:=if s.known.contains b then [] else [60]++dK (sh.bs.getD b aY).ocs++ [62]
noncomputable def oW (sh:Sh) (w:List It->TS->List (List Nat)×TS) (left:Nat) (kd:Kd) (b:Nat) (s:TS):List (List Nat)×TS:=w (sh.bs.getD b aY).aj (bo (meet s b) b left)
noncomputable def vn (kd:Kd):List Nat:=if kd= .az then fG++ [61] else []
noncomputable def oC (sh:Sh) (w:List It->TS->List (List Nat)×TS) (left:Nat) (kd:Kd) (b:Nat) (s:TS):List Nat:= [40]++(joinB [32] ((oW sh w left kd b s).1.map (vn kd++ ·))++ [41])
theorem gD {sh:Sh} {w:List It->TS->List (List Nat)×TS} {left:Nat} {kd:Kd} {b st mn:Nat} {s:TS} (hk:kd≠ .str) (q:left≤s.left b):sharedO sh w left kd b st mn s=(ahead s kd b st mn,meet s b):=by
 cases kd<;>first|exact if_pos q|exact absurd rfl hk
theorem gB {sh:Sh} {w:List It->TS->List (List Nat)×TS} {left:Nat} {kd:Kd} {b st mn:Nat} {s:TS} (hk:kd≠ .str) (q: ¬left≤s.left b):sharedO sh w left kd b st mn s=(ahead s kd b st mn++oC sh w left kd b s,(oW sh w left kd b s).2):=by
 have e: ∀a b c d:List Nat,a++b++c++d=a++(b++(c++d)):=λa b c d=>by rw [List.append_assoc,List.append_assoc]
 cases kd<;>first|exact (if_neg q).trans (congrArg (·,_) (e _ _ _ _))|exact absurd rfl hk
theorem lM {sh:Sh} {w:List It->TS->List (List Nat)×TS} {left:Nat} {kd:Kd} {b st mn:Nat} {s:TS}: ∃v,(sharedO sh w left kd b st mn s).1=ahead s kd b st mn++v:=by
 by_cases hk:kd= .str
 ·subst hk;exact ⟨_,rfl⟩
 ·by_cases q:left≤s.left b
  ·exact ⟨[],by rw [gD hk q,List.append_nil]⟩
  ·exact ⟨_,by rw [gB hk q]⟩
theorem DO {w w':List It->TS->List (List Nat)×TS} {left:Nat} {s s':TS} {i j ac ac' st st' mn mn':Nat} {ex:Bool} {b b':Bd} (o:bk nr.bs b) (o':bk fr.bs b') (ha:fy nr .str i ac=fy fr .str j ac') (a1:nr.bs[i]?=some b) (a2:b.kd= .str) (c1:fr.bs[j]?=some b') (c2:b'.kd= .str) (L:Lock nr fr s s')
  (Bg:(meet s i).known.idxOf i=(meet s' j).known.idxOf j) (sr:Kd.str≠ .az->st=st'/\mn=mn'):Res nr fr s s' left (.obj .str i st mn ex ac) (.obj .str j st' mn' ex ac') (ahead s .str i st mn++oS nr s i,meet s i) (ahead s' .str j st' mn'++oS fr s' j,meet s' j):=by
 intro u u' h
 obtain ⟨m1,m2,m3,m4⟩:=tV L Bg
 have h:=(fz ((List.append_assoc ..).symm.trans (h.trans (List.append_assoc ..)))).2.2
 unfold oS at h
 by_cases hn:i∈s.known
 ·rw [if_pos (List.contains_iff_mem.mpr hn),if_pos (List.contains_iff_mem.mpr (m1.mp hn))] at h
  obtain ⟨L1,M1⟩:=m3 λz=>absurd hn z
  exact ⟨h,L1,M1,lj ha a1 a2 L1 sr m2,λz=>absurd rfl z⟩
 ·rw [if_neg λz=>hn (List.contains_iff_mem.mp z),if_neg λz=>hn (m1.mpr (List.contains_iff_mem.mp z)),aI a1,aI c1] at h
  have h:=(bZ h).2
  change (dK b.ocs++ [62])++u=(dK b'.ocs++ [62])++u' at h
  rw [List.append_assoc,List.append_assoc] at h
  obtain ⟨_,o1,o2⟩:=o.str a2
  obtain ⟨_,Jw,V8⟩:=o'.str c2
  obtain ⟨e1,e2⟩:=B6 o2 V8 (Nu o1 Jw) h
  obtain ⟨L1,M1⟩:=m3 λ_ _=>by rw [aI a1,aI c1];exact e1
  exact ⟨(bZ e2).2,L1,M1,lj ha a1 a2 L1 sr m2,λz=>absurd rfl z⟩
theorem oG {s:TS} {i v:Nat}:(bo s i v).left i=v:=if_pos rfl
theorem vk {s:TS} {i j v:Nat} (h:j≠i):(bo s i v).left j=s.left j:=if_neg h
theorem zV (ok: ∀b∈nr.bs,bk nr.bs b) (fR: ∀b∈fr.bs,bk fr.bs b) {w w':List It->TS->List (List Nat)×TS} {left:Nat} (hw:0<left->v7 nr fr w w' (left-1)) {kd:Kd} {s s':TS} {i j ac ac' st st' mn mn':Nat} {ex:Bool} {b b':Bd} (hk:kd≠ .str)
  (pv:(nr.bs.getD i aY).aj.length=(fr.bs.getD j aY).aj.length) (ha:fy nr kd i ac=fy fr kd j ac') (a1:nr.bs[i]?=some b) (a2:b.kd=kd) (c1:fr.bs[j]?=some b') (L1:Lock nr fr (meet s i) (meet s' j)) (M1:dX nr fr s s' (meet s i) (meet s' j)) (m2:(i,j)∈KK (meet s i) (meet s' j)) (sr:kd≠ .az->st=st'/\mn=mn') (q1: ¬left≤s.left i):
  Res nr fr s s' left (.obj kd i st mn ex ac) (.obj kd j st' mn' ex ac') (ahead s kd i st mn++oC nr w left kd i s,(oW nr w left kd i s).2) (ahead s' kd j st' mn'++oC fr w' left kd j s',(oW fr w' left kd j s').2):=by
 intro u u' h
 have h:=(bZ (fz ((List.append_assoc ..).symm.trans (h.trans (List.append_assoc ..)))).2.2).2
 change (joinB [32] ((oW nr w left kd i s).1.map (vn kd++ ·))++ [41])++u=(joinB [32] ((oW fr w' left kd j s').1.map (vn kd++ ·))++ [41])++u' at h
 rw [List.append_assoc,List.append_assoc] at h
 obtain ⟨e1,L3,M3,C3⟩:=hw (Ax q1) (vn kd) _ _ _ _ _ _ pv (DA (v:=left) L1 m2) (by rw [aI a1];exact (ok b (List.mem_of_getElem? a1)).aj) (by rw [aI c1];exact (fR b' (List.mem_of_getElem? c1)).aj) h
 change Lock nr fr (oW nr w left kd i s).2 (oW fr w' left kd j s').2 at L3
 change dX nr fr _ _ (oW nr w left kd i s).2 (oW fr w' left kd j s').2 at M3
 change ae (dj nr fr (oW nr w left kd i s).2 (oW fr w' left kd j s').2 (left-1)) _ _ at C3
 show Out nr fr s s' u u' (oW nr w left kd i s).2 (oW fr w' left kd j s').2 (dj nr fr (oW nr w left kd i s).2 (oW fr w' left kd j s').2 left _ _)
 generalize (oW nr w left kd i s).2=t at*
 generalize (oW fr w' left kd j s').2=t' at*
 have yQ:(meet s i).left i≤left:=by rw [fA];exact o7 q1
 obtain ⟨s1,s2⟩:=dX.qm (s:=meet s i) (s':=meet s' j) (i:=i) (j:=j) yQ
 refine ⟨(bZ e1).2,L3,⟨λp hp=>M3.sub p (s1 p (M1.sub p hp)),λi'=>Nat.le_trans (M1.left i') (Nat.le_trans (s2 i') (M3.left i')),λp hp=> ?_⟩,lj ha a1 a2 L3 sr (M3.sub _ m2),λ_=>by have y:=M3.left i;rwa [oG] at y⟩
 refine (M3.ch p hp).elim (λz=> ?_) .inr
 by_cases yY:p.1=i
 ·refine .inr ?_
  have V9:p.2=j:=(L3.inj hp (M3.sub _ m2)).mp yY
  unfold Ch
  rw [z,yY,V9,oG]
  exact C3
 ·exact .inl (z.trans ((vk yY).trans (by rw [fA])))
theorem tQ {k k':Nat} {u u':List Nat} (h:([108]++kx++ [48+k])++u=([108]++kx++ [48+k'])++u'):k=k'/\u=u':=by
 rw [List.append_assoc,List.append_assoc ([108]++kx)] at h
 have z:=bZ (List.append_cancel_left h)
 exact ⟨l0 z.1,z.2⟩
theorem HC {sh PT:Sh} {w w':List It->TS->List (List Nat)×TS} {left:Nat} {s s':TS} {kd:Kd} {i j st st' mn mn':Nat} {u u':List Nat} (h:(sharedO sh w left kd i st mn s).1++u=(sharedO PT w' left kd j st' mn' s').1++u'):(meet s i).known.idxOf i=(meet s' j).known.idxOf j/\(kd≠ .az->st=st'/\mn=mn'):=by
 obtain ⟨v,e⟩:=lM (sh:=sh) (w:=w) (left:=left) (kd:=kd) (b:=i) (st:=st) (mn:=mn) (s:=s)
 obtain ⟨v',e'⟩:=lM (sh:=PT) (w:=w') (left:=left) (kd:=kd) (b:=j) (st:=st') (mn:=mn') (s:=s')
 rw [e,e',List.append_assoc,List.append_assoc] at h
 exact ⟨(fz h).1,(fz h).2.1⟩
theorem zK (ok: ∀b∈nr.bs,bk nr.bs b) (fR: ∀b∈fr.bs,bk fr.bs b) {w w':List It->TS->List (List Nat)×TS} {left:Nat} (hw:0<left->v7 nr fr w w' (left-1)) {s s':TS} {kd:Kd} {i j ac ac' st st' mn mn':Nat} {ex:Bool} (L:Lock nr fr s s') (hx:aZ nr.bs (.obj kd i st mn ex ac)) (hy:aZ fr.bs (.obj kd j st' mn' ex ac')) (ha:fy nr kd i ac=fy fr kd j ac'):
  Res nr fr s s' left (.obj kd i st mn ex ac) (.obj kd j st' mn' ex ac') (sharedO nr w left kd i st mn s) (sharedO fr w' left kd j st' mn' s'):=by
 intro u u' h
 obtain ⟨b,a1,a2,_⟩:=id hx.1
 obtain ⟨b',c1,c2,_⟩:=id hy.1
 have I:=HC h
 by_cases hk:kd= .str
 ·subst hk;exact DO (w:=w) (w':=w') (ok b (List.mem_of_getElem? a1)) (fR b' (List.mem_of_getElem? c1)) ha a1 a2 c1 c2 L I.1 I.2 u u' h
 ·have m:=tV L I.1
  have z:=m.2.2.1 λ_ z=>by rw [aI a1,a2] at z;exact absurd z hk
  by_cases q1:left≤s.left i
  ·rw [gD hk q1,gD hk (MV m.2.2.2 q1)] at h⊢
   exact ⟨(fz h).2.2,z.1,z.2,lj ha a1 a2 z.1 I.2 m.2.1,λ_=>by rw [fA];exact q1⟩
  ·rw [gB hk q1,gB hk (Oo m.2.2.2 q1)] at h⊢
   exact zV ok fR hw hk (nY ok fR hk hx hy I.2) ha a1 a2 c1 z.1 z.2 m.2.1 I.2 q1 u u' h
theorem ru (ok: ∀b∈nr.bs,bk nr.bs b) (fR: ∀b∈fr.bs,bk fr.bs b) {w w':List It->TS->List (List Nat)×TS} {left:Nat} (hw:0<left->v7 nr fr w w' (left-1)):One nr fr (tellW nr w left) (tellW fr w' left) left:=by
 intro s s' x y u u' L hx hy h
 cases x with
 |num k=>
  cases y with
  |num k'=>exact ⟨(tQ h).2,L,dX.refl,(tQ h).1,trivial⟩
  |obj kd j st mn ex ac=>rw [du] at h;exact (u0 h).elim
 |obj kd i st mn ex ac=>
  cases y with
  |num k'=>rw [du] at h;exact (u0 h.symm).elim
  |obj bM j st' mn' ex' ac'=>
   rw [du,du] at h⊢
   have z:=EZ h
   cases z.2.1
   cases HW z.1
   exact zK ok fR hw L hx hy (l0 z.2.2.1) u u' z.2.2.2
theorem qD {f:It->TS->List Nat×TS} {x x2:It} {xs:List It} {s:TS} {pre u:List Nat}:joinB [32] ((tellList f (x::x2::xs) s).1.map (pre++ ·))++u=pre++((f x s).1++(32::(joinB [32] ((tellList f (x2::xs) (f x s).2).1.map (pre++ ·))++u))):=by
 show (((pre++(f x s).1)++ [32])++joinB [32] ((tellList f (x2::xs) (f x s).2).1.map (pre++ ·)))++u=_
 rw [List.append_assoc,List.append_assoc,List.append_assoc];rfl
theorem DP {f f':It->TS->List Nat×TS} {m:Nat} (hf:One nr fr f f' m):v7 nr fr (tellList f) (tellList f') m:=by
 intro pre xs
 induction xs with
 |nil=>
  intro ys s s' u u' hl L _ _ h
  cases List.eq_nil_of_length_eq_zero hl.symm
  exact ⟨h,L,dX.refl, .nil⟩
 |cons x xs ih=>
  intro ys s s' u u' hl L hx hy h
  obtain ⟨y,ys,rfl⟩:=List.exists_cons_of_length_eq_add_one hl.symm
  have hl:=Nat.succ.inj hl
  have PU:=hx x List.mem_cons_self
  have PV:=hy y List.mem_cons_self
  cases xs with
  |nil=>
   cases List.eq_nil_of_length_eq_zero hl.symm
   have o:=hf _ _ _ _ _ _ L PU PV (List.append_cancel_left ((List.append_assoc pre _ u).symm.trans (h.trans (List.append_assoc pre _ u'))))
   exact ⟨o.e,o.L,o.M, .cons o.C .nil⟩
  |cons x2 xs=>
   obtain ⟨y2,ys,rfl⟩:=List.exists_cons_of_length_eq_add_one hl.symm
   have o:=hf _ _ _ _ _ _ L PU PV (List.append_cancel_left (qD.symm.trans (h.trans qD)))
   have p:=ih (y2::ys) _ _ _ _ hl o.L (λz hz=>hx z (List.mem_cons_of_mem _ hz)) (λz hz=>hy z (List.mem_cons_of_mem _ hz)) (List.cons.inj o.e).2
   exact ⟨p.e,p.L,o.M.trans o.L L p.L p.M, .cons (o.C.mono p.M.sub p.M.left (Nat.le_refl _)) p.C⟩
theorem zM (ok: ∀b∈nr.bs,bk nr.bs b) (fR: ∀b∈fr.bs,bk fr.bs b) (l:Nat):One nr fr (tell nr l) (tell fr l) l:=by
 induction l with
 |zero=>exact ru ok fR λz=>absurd z BD
 |succ l ih=>exact ru ok fR λ_=>DP ih
theorem join_one {f:It->TS->List Nat×TS} {x:It} {xs:List It} {s:TS} {u:List Nat}:joinB [] ((tellList f (x::xs) s).1.map (· ++ [10]))++u=(f x s).1++(10::(joinB [] ((tellList f xs (f x s).2).1.map (· ++ [10]))++u)):=by
 have hj: ∀(a:List Nat) (l:List (List Nat)),joinB [] (a::l)=a++joinB [] l:=λa l=>by
  cases l
  ·exact (List.append_nil a).symm
  ·show a++ []++_=_;rw [List.append_nil]
 show joinB [] (((f x s).1++ [10])::(tellList f xs (f x s).2).1.map (· ++ [10]))++u=_
 rw [hj,List.append_assoc,List.append_assoc];rfl
theorem xD {f f':It->TS->List Nat×TS} {m:Nat} (hf:One nr fr f f' m) (xs:List It): ∀(ys:List It) (s s':TS) (u u':List Nat),xs.length=ys.length->Lock nr fr s s'->(∀x∈xs,aZ nr.bs x)->(∀y∈ys,aZ fr.bs y)->
  joinB [] ((tellList f xs s).1.map (· ++ [10]))++u=joinB [] ((tellList f' ys s').1.map (· ++ [10]))++u'->Out nr fr s s' u u' (tellList f xs s).2 (tellList f' ys s').2 (ae (dj nr fr (tellList f xs s).2 (tellList f' ys s').2 m) xs ys):=by
 induction xs with
 |nil=>
  intro ys s s' u u' hl L _ _ h
  cases List.eq_nil_of_length_eq_zero hl.symm
  exact ⟨h,L,dX.refl, .nil⟩
 |cons x xs ih=>
  intro ys s s' u u' hl L hx hy h
  obtain ⟨y,ys,rfl⟩:=List.exists_cons_of_length_eq_add_one hl.symm
  have o:=hf _ _ _ _ _ _ L (hx x List.mem_cons_self) (hy y List.mem_cons_self) (join_one.symm.trans (h.trans join_one))
  have p:=ih ys _ _ _ _ (Nat.succ.inj hl) o.L (λz hz=>hx z (List.mem_cons_of_mem _ hz)) (λz hz=>hy z (List.mem_cons_of_mem _ hz)) (List.cons.inj o.e).2
  exact ⟨p.e,p.L,o.M.trans o.L L p.L p.M, .cons (o.C.mono p.M.sub p.M.left (Nat.le_refl _)) p.C⟩
end
noncomputable def isNum:It->Prop
 | .num _=>True
 |_=>False
inductive dF (nr fr:Sh):List (It×It×Nat)->List (Nat×Nat)->Option Nat->Prop
 |done {M}:dF nr fr [] M none
 |pX {k l q M res}:dF nr fr q M res->dF nr fr ((.num k, .num k,l)::q) M res
 |pY {a b l q M}:isNum a∨isNum b->a≠b->dF nr fr ((a,b,l)::q) M (some l)
 |nM {kd i st mn ex ac bM j st' mn' ex' ac' l q M}:(kd≠bM∨ex≠ex'∨(kd≠ .az/\(st≠st'∨mn≠mn'∨ac≠ac')))->dF nr fr ((.obj kd i st mn ex ac, .obj bM j st' mn' ex' ac',l)::q) M (some l)
 |kX {a b i j l q M}:(∃kd st mn ex ac,a= .obj kd i st mn ex ac)->(∃kd st mn ex ac,b= .obj kd j st mn ex ac)->((∃j',(i,j')∈M/\j'≠j)∨ ∃i',(i',j)∈M/\i'≠i)->dF nr fr ((a,b,l)::q) M (some l)
 |known {kd i st mn ex ac j st' mn' ac' l q M res}:(kd≠ .az->st=st'/\mn=mn'/\ac=ac')->(i,j)∈M->dF nr fr q M res->dF nr fr ((.obj kd i st mn ex ac, .obj kd j st' mn' ex ac',l)::q) M res
 |pZ {i st mn ex ac j st' mn' ac' l q M}:(nr.bs.getD i aY).ac≠(fr.bs.getD j aY).ac->dF nr fr ((.obj .az i st mn ex ac, .obj .az j st' mn' ex ac',l)::q) M (some l)
 |q8 {i st mn ex ac j st' mn' ac' l q M}:(nr.bs.getD i aY).ocs≠(fr.bs.getD j aY).ocs->dF nr fr ((.obj .str i st mn ex ac, .obj .str j st' mn' ex ac',l)::q) M (some (l+1))
 |q9 {i st mn ex ac j l q M res}:(∀p∈M,p.1≠i/\p.2≠j)->(nr.bs.getD i aY).ocs=(fr.bs.getD j aY).ocs->dF nr fr q ((i,j)::M) res->dF nr fr ((.obj .str i st mn ex ac, .obj .str j st mn ex ac,l)::q) M res
 |more {kd i st mn ex ac j st' mn' ac' l q M res}:kd≠ .str->(kd≠ .az->st=st'/\mn=mn'/\ac=ac')->(∀p∈M,p.1≠i/\p.2≠j)->(kd= .az->(nr.bs.getD i aY).ac=(fr.bs.getD j aY).ac)->
   dF nr fr (q++((nr.bs.getD i aY).aj.zip (fr.bs.getD j aY).aj).map λp=>(p.1,p.2,l+1)) ((i,j)::M) res->dF nr fr ((.obj kd i st mn ex ac, .obj kd j st' mn' ex ac',l)::q) M res
section
variable {nr fr:Sh}
theorem EF {D:Nat} {q:List (It×It×Nat)} {M:List (Nat×Nat)} {res:Option Nat} (h:dF nr fr q M res):(∀e∈q,D≤e.2.2)-> ∀L,res=some L->D≤L:=by
 induction h with
 |done=>intro _ L e;simp at e
 |pX _ ih=>intro hq;exact ih λe he=>hq e (List.mem_cons_of_mem _ he)
 |pY _ _=>intro hq L e;simp at e;subst e;exact hq _ List.mem_cons_self
 |nM _=>intro hq L e;simp at e;subst e;exact hq _ List.mem_cons_self
 |kX _ _ _=>intro hq L e;simp at e;subst e;exact hq _ List.mem_cons_self
 |known _ _ _ ih=>intro hq;exact ih λe he=>hq e (List.mem_cons_of_mem _ he)
 |pZ _=>intro hq L e;simp at e;subst e;exact hq _ List.mem_cons_self
 |q8 _=>intro hq L e;simp at e;subst e;have:=hq _ List.mem_cons_self;simp only at this;exact vI this
 |q9 _ _ _ ih=>intro hq;exact ih λe he=>hq e (List.mem_cons_of_mem _ he)
 |more _ _ _ _ _ ih=>
  intro hq
  refine ih λe he=> ?_
  rcases List.mem_append.mp he with he|he
  ·exact hq e (List.mem_cons_of_mem _ he)
  ·obtain ⟨p,_,rfl⟩:=List.mem_map.mp he
   have:=hq _ List.mem_cons_self
   simp only at this⊢;exact vI this
theorem zm {D:Nat} {s s':TS} (L:Lock nr fr s s') (Vc: ∀p∈KK s s',s.left p.1=0∨Ch nr fr s s' p) {q:List (It×It×Nat)} {M:List (Nat×Nat)} {res:Option Nat} (h:dF nr fr q M res):
  (∀p∈M,p∈KK s s')->q.Pairwise (λe e'=>e.2.2≤e'.2.2/\e'.2.2≤e.2.2+1)->(∀e∈q,dj nr fr s s' (D-e.2.2) e.1 e.2.1)-> ∀L,res=some L->D≤L:=by
 have far: ∀{q:List (It×It×Nat)} {M:List (Nat×Nat)} {res:Option Nat} {e:It×It×Nat},dF nr fr (e::q) M res->(e::q).Pairwise (λe e'=>e.2.2≤e'.2.2/\e'.2.2≤e.2.2+1)->D≤e.2.2-> ∀L,res=some L->D≤L:=λh hp hD=>EF h λe' su=>by
  rcases List.mem_cons.mp su with rfl|su
  ·exact hD
  ·have:=(List.pairwise_cons.mp hp).1 e' su;exact Nz hD this
 induction h with
 |done=>intro _ _ _ L e;simp at e
 |pX _ ih=>intro hM hp hq;exact ih hM (List.pairwise_cons.mp hp).2 λe he=>hq e (List.mem_cons_of_mem _ he)
 | @pY a b l q M h1 h2=>
  intro hM hp hq L e
  obtain ⟨hl,_⟩:=hq _ List.mem_cons_self
  simp only at hl
  cases a<;>cases b<;>simp [isNum,iP] at h1 hl h2
  exact absurd (congrArg It.num hl) h2
 |nM h1=>
  intro hM hp hq L e
  obtain ⟨⟨a1,a2,a3,_⟩,_⟩:=hq _ List.mem_cons_self
  rcases h1 with h|h|⟨h,h'⟩
  ·exact absurd a1 h
  ·exact absurd a2 h
  ·obtain ⟨b1,b2,b3⟩:=a3 h
   rcases h' with h|h|h
   ·exact absurd b1 h
   ·exact absurd b2 h
   ·exact absurd b3 h
 |kX h1 h2 h3=>
  intro hM hp hq L' e
  obtain ⟨kd,st,mn,ex,ac,rfl⟩:=h1
  obtain ⟨bM,st',mn',ex',ac',rfl⟩:=h2
  obtain ⟨⟨_,_,_,_,a5,_⟩,_⟩:=hq _ List.mem_cons_self
  rcases h3 with ⟨j',m1,m2⟩|⟨i',m1,m2⟩
  ·exact absurd ((L.inj (hM _ m1) a5).mp rfl) m2
  ·exact absurd ((L.inj (hM _ m1) a5).mpr rfl) m2
 |known _ _ _ ih=>intro hM hp hq;exact ih hM (List.pairwise_cons.mp hp).2 λe he=>hq e (List.mem_cons_of_mem _ he)
 |pZ h1=>
  intro hM hp hq L' e
  obtain ⟨⟨_,_,_,a4,_,_⟩,_⟩:=hq _ List.mem_cons_self
  exact absurd (a4 rfl) h1
 |q8 h1=>
  intro hM hp hq L' e
  obtain ⟨⟨_,_,_,_,_,a6⟩,_⟩:=hq _ List.mem_cons_self
  exact absurd (a6 rfl) h1
 | @q9 i st mn ex ac j l q M res h1 h2 h3 ih=>
  intro hM hp hq
  obtain ⟨⟨_,_,_,_,a5,_⟩,_⟩:=hq _ List.mem_cons_self
  refine ih (λp hp=> ?_) (List.pairwise_cons.mp hp).2 λe he=>hq e (List.mem_cons_of_mem _ he)
  rcases List.mem_cons.mp hp with rfl|hp
  ·exact a5
  ·exact hM p hp
 | @more kd i st mn ex ac j st' mn' ac' l q M res h1 h2 h3 h4 h5 ih=>
  intro hM hp hq L' e
  by_cases hD:D≤l
  ·exact far (dF.more (nr:=nr) (fr:=fr) (st:=st) (mn:=mn) (ex:=ex) (ac:=ac) (st':=st') (mn':=mn') (ac':=ac') h1 h2 h3 h4 h5) hp hD L' e
  ·obtain ⟨⟨_,_,_,_,a5,_⟩,dp⟩:=hq _ List.mem_cons_self
   have dp:D-l≤s.left i:=dp h1
   obtain ⟨p1,p2⟩:=List.pairwise_cons.mp hp
   refine ih (λp hp=> ?_) ?_ ?_ L' e
   ·rcases List.mem_cons.mp hp with rfl|hp
    ·exact a5
    ·exact hM p hp
   ·refine List.pairwise_append.mpr ⟨p2, ?_, ?_⟩
    ·rw [List.pairwise_map]
     exact List.pairwise_of_forall (λ_ _=>⟨Nat.le_refl _,Nat.le_succ _⟩)
    ·intro a ha b hb
     obtain ⟨p,_,rfl⟩:=List.mem_map.mp hb
     have:=p1 a ha
     simp only at this⊢
     exact Og this
   ·intro e he
    rcases List.mem_append.mp he with he|he
    ·exact hq e (List.mem_cons_of_mem _ he)
    ·obtain ⟨p,Jx,rfl⟩:=List.mem_map.mp he
     rcases Vc _ a5 with h0|hC
     ·simp only at h0;omega
     ·exact (hC.zip p Jx).mono (λ_ h=>h) (λ_=>Nat.le_refl _) (by simp only;exact Ma dp)
theorem zP {D L:Nat} (W:WF nr) (W':WF fr) (hl:nr.st.length=fr.st.length) (h:dF nr fr ((nr.st.zip fr.st).map λp=>(p.1,p.2,0)) [] (some L)) (he:bf nr D=bf fr D):D≤L:=by
 have Z:Lock nr fr TS.zero TS.zero:=⟨rfl,by simp [TS.zero],by simp [TS.zero],by simp [KK,TS.zero],λ_ _=>rfl,λ_ _=>rfl,by simp [KK,TS.zero]⟩
 obtain ⟨_,L1,M1,C1⟩:=xD (zM W.ok W'.ok D) nr.st fr.st TS.zero TS.zero [] [] hl Z W.st W'.st (by simpa [bf] using he)
 refine zm L1 (λp hp=> ?_) h (by simp) ?_ ?_ L rfl
 ·rcases M1.ch p hp with h|h
  ·exact .inl h
  ·exact .inr h
 ·rw [List.pairwise_map]
  exact List.pairwise_of_forall (λ_ _=>⟨Nat.le_refl _,Nat.le_succ _⟩)
 ·intro e he
  obtain ⟨p,Jx,rfl⟩:=List.mem_map.mp he
  exact C1.zip p Jx
end
noncomputable def jy (M:List (Nat×Nat)):It->It->Prop
 | .num a, .num b=>a=b
 | .obj kd i st mn ex ac, .obj bM j st' mn' ex' ac'=>kd=bM/\ex=ex'/\(kd≠ .az->st=st'/\mn=mn'/\ac=ac')/\(i,j)∈M
 |_,_=>False
noncomputable def pS (nr fr:Sh) (M:List (Nat×Nat)) (p:Nat×Nat):Prop:=((nr.bs.getD p.1 aY).kd= .az->(nr.bs.getD p.1 aY).ac=(fr.bs.getD p.2 aY).ac)/\((nr.bs.getD p.1 aY).kd= .str->(nr.bs.getD p.1 aY).ocs=(fr.bs.getD p.2 aY).ocs)/\ae (jy M) (nr.bs.getD p.1 aY).aj (fr.bs.getD p.2 aY).aj
noncomputable def iD (M:List (Nat×Nat)):Prop:= ∀p∈M,∀q∈M,p.1=q.1↔p.2=q.2
section
variable {nr fr:Sh}
theorem iD.cons {M:List (Nat×Nat)} {i j:Nat} (h:iD M) (hn: ∀p∈M,p.1≠i/\p.2≠j):iD ((i,j)::M):=by
 intro p hp q hq
 rcases List.mem_cons.mp hp with rfl|hp
 ·rcases List.mem_cons.mp hq with rfl|hq
  ·simp
  ·obtain ⟨h1,h2⟩:=hn q hq
   exact ⟨λe=>absurd e.symm h1,λe=>absurd e.symm h2⟩
 ·rcases List.mem_cons.mp hq with rfl|hq
  ·obtain ⟨h1,h2⟩:=hn p hp
   exact ⟨λe=>absurd e h1,λe=>absurd e h2⟩
  ·exact h p hp q hq
theorem AB (ok: ∀b∈nr.bs,bk nr.bs b) (fR: ∀b∈fr.bs,bk fr.bs b) {q:List (It×It×Nat)} {M:List (Nat×Nat)} {res:Option Nat} (h:dF nr fr q M res):res=none->iD M->(∀e∈q,aZ nr.bs e.1/\aZ fr.bs e.2.1)->
  ∃M',(∀p∈M,p∈M')/\iD M'/\(∀p∈M',p∈M∨pS nr fr M' p)/\ ∀e∈q,jy M' e.1 e.2.1:=by
 induction h with
 | @done M=>intro _ hi _;exact ⟨M,λ_ h=>h,hi,λ_ h=> .inl h,by simp⟩
 |pX _ ih=>
  intro hr hi hq
  obtain ⟨M',a,b,c,d⟩:=ih hr hi λe he=>hq e (List.mem_cons_of_mem _ he)
  refine ⟨M',a,b,c,λe he=> ?_⟩
  rcases List.mem_cons.mp he with rfl|he
  ·exact rfl
  ·exact d e he
 |pY _ _=>intro hr;simp at hr
 |nM _=>intro hr;simp at hr
 |kX _ _ _=>intro hr;simp at hr
 |known h1 h2 _ ih=>
  intro hr hi hq
  obtain ⟨M',a,b,c,d⟩:=ih hr hi λe he=>hq e (List.mem_cons_of_mem _ he)
  refine ⟨M',a,b,c,λe he=> ?_⟩
  rcases List.mem_cons.mp he with rfl|he
  ·exact ⟨rfl,rfl,h1,a _ h2⟩
  ·exact d e he
 |pZ _=>intro hr;simp at hr
 |q8 _=>intro hr;simp at hr
 | @q9 i st mn ex ac j l q M res h1 h2 h3 ih=>
  intro hr hi hq
  obtain ⟨x1,x2⟩:=hq _ List.mem_cons_self
  obtain ⟨⟨b1,a1,a2,a3⟩,_⟩:=x1
  obtain ⟨⟨b2,c1,c2,c3⟩,_⟩:=x2
  obtain ⟨M',a,b,c,d⟩:=ih hr (hi.cons h1) λe he=>hq e (List.mem_cons_of_mem _ he)
  refine ⟨M',λp hp=>a p (List.mem_cons_of_mem _ hp),b,λp hp=> ?_,λe he=> ?_⟩
  ·rcases c p hp with h|h
   ·rcases List.mem_cons.mp h with rfl|h
    ·refine .inr ⟨λz=> ?_,λ_=>h2, ?_⟩
     ·simp only [aI a1] at z;rw [a2] at z;simp at z
     ·simp only [aI a1,aI c1]
      rw [((ok _ (List.mem_of_getElem? a1)).str a2).1,((fR _ (List.mem_of_getElem? c1)).str c2).1]
      exact .nil
    ·exact .inl h
   ·exact .inr h
  ·rcases List.mem_cons.mp he with rfl|he
   ·exact ⟨rfl,rfl,λ_=>⟨rfl,rfl,rfl⟩,a _ List.mem_cons_self⟩
   ·exact d e he
 | @more kd i st mn ex ac j st' mn' ac' l q M res h1 h2 h3 h4 h5 ih=>
  intro hr hi hq
  obtain ⟨x1,x2⟩:=hq _ List.mem_cons_self
  have pv:=nY ok fR h1 x1 x2 λz=>⟨(h2 z).1,(h2 z).2.1⟩
  obtain ⟨⟨b1,a1,a2,a3⟩,_⟩:=x1
  obtain ⟨⟨b2,c1,c2,c3⟩,_⟩:=x2
  have o1:=(ok _ (List.mem_of_getElem? a1)).aj
  have o2:=(fR _ (List.mem_of_getElem? c1)).aj
  obtain ⟨M',a,b,c,d⟩:=ih hr (hi.cons h3) λe he=>by
   rcases List.mem_append.mp he with he|he
   ·exact hq e (List.mem_cons_of_mem _ he)
   ·obtain ⟨p,hp,rfl⟩:=List.mem_map.mp he
    rw [aI a1,aI c1] at hp
    have h1:=cf hp
    have h2:=bS hp
    exact ⟨o1 _ h1,o2 _ h2⟩
  refine ⟨M',λp hp=>a p (List.mem_cons_of_mem _ hp),b,λp hp=> ?_,λe he=> ?_⟩
  ·rcases c p hp with h|h
   ·rcases List.mem_cons.mp h with rfl|h
    ·refine .inr ⟨λz=> ?_,λz=> ?_,ae.wm pv λp hp=>d (p.1,p.2,l+1) (List.mem_append_right _ (List.mem_map.mpr ⟨p,hp,rfl⟩))⟩
     ·simp only [aI a1] at z;exact h4 (a2.symm.trans z)
     ·simp only [aI a1] at z;exact absurd (a2.symm.trans z) h1
    ·exact .inl h
   ·exact .inr h
  ·rcases List.mem_cons.mp he with rfl|he
   ·exact ⟨rfl,rfl,h2,a _ List.mem_cons_self⟩
   ·exact d e (List.mem_append_left _ he)
structure Sync (M:List (Nat×Nat)) (s s':TS):Prop where
 k:ae (λi j=>(i,j)∈M) s.known s'.known
 l: ∀p∈M,s.left p.1=s'.left p.2
theorem vh {M:List (Nat×Nat)} (hi:iD M) {i j:Nat} (hm:(i,j)∈M): ∀{l m:List Nat},ae (λi j=>(i,j)∈M) l m->l.contains i=m.contains j/\l.idxOf i=m.idxOf j/\l.length=m.length
 |_,_, .nil=>by simp
 |_,_, .cons (a:=a) (b:=b) (l:=l) (m:=m) h t=>by
  obtain ⟨t1,t2,t3⟩:=vh hi hm t
  have e:=hi _ hm _ h
  simp only at e
  by_cases q:i=a
  ·have q':=e.mp q
   subst q;subst q'
   simp [t3]
  ·have q': ¬j=b:=λz=>q (e.mpr z)
   have c1:(i==a)=false:=by simpa using q
   have c2:(j==b)=false:=by simpa using q'
   have c3:(a==i)=false:=by simpa using λz=>q z.symm
   have c4:(b==j)=false:=by simpa using λz=>q' z.symm
   simp only [List.contains_cons,c1,c2,Bool.false_or,List.idxOf_cons,c3,c4,List.length_cons]
   exact ⟨t1,by simpa using t2,by exact Lf t3⟩
theorem Sync.meet {M:List (Nat×Nat)} (hi:iD M) {s s':TS} (S:Sync M s s') {i j:Nat} (hm:(i,j)∈M):Sync M (Mine.Internal.C.meet s i) (Mine.Internal.C.meet s' j):=by
 obtain ⟨c1,c2,c3⟩:=vh hi hm S.k
 refine ⟨?_,λp hp=>by rw [fA,fA];exact S.l p hp⟩
 unfold Mine.Internal.C.meet
 rw [c1]
 split
 ·exact S.k
 ·exact ae.snoc (R:=λi j=>(i,j)∈M) hm S.k
theorem Sync.qm {M:List (Nat×Nat)} (hi:iD M) {s s':TS} (S:Sync M s s') {i j v:Nat} (hm:(i,j)∈M):Sync M (bo s i v) (bo s' j v):=by
 refine ⟨S.k,λp hp=> ?_⟩
 have e:=hi p hp _ hm
 simp only at e
 simp only [bo]
 by_cases h1:p.1=i
 ·rw [if_pos h1,if_pos (e.mp h1)]
 ·rw [if_neg h1,if_neg λz=>h1 (e.mpr z)];exact S.l p hp
noncomputable def Pf (M:List (Nat×Nat)) (w w':List It->TS->List (List Nat)×TS):Prop:= ∀xs ys s s',ae (jy M) xs ys->Sync M s s'->(∀x∈xs,aZ nr.bs x)->(w xs s).1=(w' ys s').1/\Sync M (w xs s).2 (w' ys s').2
theorem step_same {M:List (Nat×Nat)} (ok: ∀b∈nr.bs,bk nr.bs b) (hi:iD M) (hb: ∀p∈M,pS nr fr M p) {w w':List It->TS->List (List Nat)×TS} {left:Nat} (hw:0<left->Pf (nr:=nr) M w w') {s s':TS} {x y:It} (S:Sync M s s') (hx:aZ nr.bs x) (h:jy M x y):
  (tellW nr w left x s).1=(tellW fr w' left y s').1/\Sync M (tellW nr w left x s).2 (tellW fr w' left y s').2:=by
 cases x with
 |num k=>
  cases y with
  |num k'=>have h:k=k':=h;subst h;exact ⟨rfl,S⟩
  |obj=>exact h.elim
 |obj kd i st mn ex ac=>
  cases y with
  |num k'=>exact h.elim
  |obj bM j st' mn' ex' ac'=>
   obtain ⟨rfl,rfl,h3,hm⟩:=h
   obtain ⟨⟨b,a1,a2,a3⟩,_⟩:=id hx
   obtain ⟨f1,f2,f3⟩:=hb _ hm
   have Vd:(nr.bs.getD i aY).kd=kd:=by rw [aI a1,a2]
   simp only [Vd] at f1 f2 f3
   have j9:fy nr kd i ac=fy fr kd j ac':=by
    unfold fy
    by_cases hd:kd= .az
    ·rw [if_pos hd,if_pos hd];exact f1 hd
    ·rw [if_neg hd,if_neg hd];exact (h3 hd).2.2
   have Sm:=S.meet hi hm
   have uh:ahead s kd i st mn=ahead s' kd j st' mn':=by
    unfold ahead
    rw [(vh hi hm Sm.k).2.1]
    by_cases hd:kd= .az
    ·rw [if_pos hd,if_pos hd]
    ·rw [if_neg hd,if_neg hd,(h3 hd).1,(h3 hd).2.1]
   rw [du,du,j9]
   have main:(sharedO nr w left kd i st mn s).1=(sharedO fr w' left kd j st' mn' s').1/\Sync M (sharedO nr w left kd i st mn s).2 (sharedO fr w' left kd j st' mn' s').2:=by
    by_cases hk:kd= .str
    ·subst hk
     simp only [sharedO]
     rw [uh,(vh hi hm S.k).1,f2 rfl]
     exact ⟨rfl,Sm⟩
    ·have hS: ∀(sh:Sh) (w:List It->TS->List (List Nat)×TS) (b st mn:Nat) (s:TS),sharedO sh w left kd b st mn s=if left≤s.left b then (ahead s kd b st mn,Mine.Internal.C.meet s b)
      else (ahead s kd b st mn++ [40]++joinB [32] ((w (sh.bs.getD b aY).aj (bo (Mine.Internal.C.meet s b) b left)).1.map λx=>(if kd= .az then fG++ [61] else [])++x)++ [41],(w (sh.bs.getD b aY).aj (bo (Mine.Internal.C.meet s b) b left)).2):=λ_ _ _ _ _ _=>by
      cases kd<;>first|rfl|exact absurd rfl hk
     rw [hS,hS]
     have hl:s.left i=s'.left j:=S.l _ hm
     rw [←hl]
     by_cases q:left≤s.left i
     ·rw [if_pos q,if_pos q];exact ⟨uh,Sm⟩
     ·rw [if_neg q,if_neg q]
      obtain ⟨e1,e2⟩:=hw (by exact Ax q) _ _ _ _ f3 (Sm.qm hi hm (v:=left)) (by rw [aI a1];exact (ok b (List.mem_of_getElem? a1)).aj)
      exact ⟨by simp only [uh,e1],e2⟩
   exact ⟨by simp only [main.1],main.2⟩
theorem ou {M:List (Nat×Nat)} {f f':It->TS->List Nat×TS} (hf: ∀s s' x y,Sync M s s'->aZ nr.bs x->jy M x y->(f x s).1=(f' y s').1/\Sync M (f x s).2 (f' y s').2):Pf (nr:=nr) M (tellList f) (tellList f'):=by
 intro xs
 induction xs with
 |nil=>
  intro ys s s' h S _
  cases h
  exact ⟨rfl,S⟩
 |cons x xs ih=>
  intro ys s s' h S hx
  cases h with
  |cons h1 h2=>
   obtain ⟨e1,S1⟩:=hf _ _ _ _ S (hx x (by simp)) h1
   obtain ⟨e2,S2⟩:=ih _ _ _ h2 S1 λz hz=>hx z (List.mem_cons_of_mem _ hz)
   exact ⟨by simp only [tellList,e1,e2],S2⟩
theorem ot {M:List (Nat×Nat)} (ok: ∀b∈nr.bs,bk nr.bs b) (hi:iD M) (hb: ∀p∈M,pS nr fr M p): ∀(l:Nat) (s s':TS) (x y:It),Sync M s s'->aZ nr.bs x->jy M x y->(tell nr l x s).1=(tell fr l y s').1/\Sync M (tell nr l x s).2 (tell fr l y s').2
 |0,s,s',x,y,S,hx,h=>step_same ok hi hb (λz=>absurd z (by exact BD)) S hx h
 |l+1,s,s',x,y,S,hx,h=>step_same ok hi hb (λ_=>ou (ot ok hi hb l)) S hx h
theorem zJ {D:Nat} (W:WF nr) (W':WF fr) (hl:nr.st.length=fr.st.length) (h:dF nr fr ((nr.st.zip fr.st).map λp=>(p.1,p.2,0)) [] none):bf nr D=bf fr D:=by
 obtain ⟨M,_,hi,hb,hq⟩:=AB W.ok W'.ok h rfl (by intro p hp;simp at hp) (by
  intro e he
  obtain ⟨p,hp,rfl⟩:=List.mem_map.mp he
  have h1:=cf hp
  have h2:=bS hp
  exact ⟨W.st _ h1,W'.st _ h2⟩)
 have nH: ∀p∈M,pS nr fr M p:=λp hp=>by
  rcases hb p hp with h|h
  ·simp at h
  ·exact h
 have hB:ae (jy M) nr.st fr.st:=ae.wm hl λp hp=>hq (p.1,p.2,0) (List.mem_map.mpr ⟨p,hp,rfl⟩)
 obtain ⟨e,_⟩:=ou (ot W.ok hi nH D) _ _ TS.zero TS.zero hB ⟨.nil,λ_ _=>rfl⟩ W.st
 unfold bf
 rw [e]
end
noncomputable def Lk:IE:=match dw with|_::_:: .kS c _::_=>c|_=> .fail
noncomputable def lg:List IS:=match dw with|_::_:: .kS _ b::_=>b|_=> []
theorem uK {test:Loc->a0->KV->Prop} {body:Loc->a0->KF->Prop} {ρ:Loc} {σ:a0} {f:Nat} {Q:KF} (h:test ρ σ (OJ body ρ (λρ2 σ2=>d9 test body f ρ2 σ2 Q) Q)):d9 test body (f+1) ρ σ Q:=h
section
variable {σ s:a0} {lo:Nat} {nr fr:Sh}
noncomputable def lookV:It->List AV
 | .num k=> []
 | .obj kd i st mn ex ac=> [.str kd.code, .bool ex]++(if kd= .az then [] else [.int (st:Nat), .int (mn:Nat), .int (ac:Nat)])
noncomputable def OM:It->It->Prop
 | .obj kd i st mn ex ac, .obj bM j st' mn' ex' ac'=>kd=bM/\ex=ex'/\(kd≠ .az->st=st'/\mn=mn'/\ac=ac')
 |_,_=>False
noncomputable def PE (a b:AV):Prop:= ∃c,eW a b=some c/\(c=true↔a=b)
theorem kH {a b:Int}:PE (.int a) (.int b):=⟨_,rfl,decide_eq_true_iff.trans ⟨congrArg _,AV.int.inj⟩⟩
theorem qd {a b:Nat}:PE (.str a) (.str b):=⟨_,rfl,decide_eq_true_iff.trans ⟨congrArg _,AV.str.inj⟩⟩
theorem ue {a b:Bool}:PE (.bool a) (.bool b):=⟨_,rfl,beq_iff_eq.trans ⟨congrArg _,AV.bool.inj⟩⟩
theorem oF: ∀{l m:List AV},ae PE l m-> ∃c,listEq l m=some c/\(c=true↔l=m)
 |_,_, .nil=>⟨true,rfl,iff_of_true rfl rfl⟩
 |_,_, .cons h t=>by
  obtain ⟨c,e,hc⟩:=h
  obtain ⟨d,e',hd⟩:=oF t
  exact ⟨c&&d,by rw [listEq,e,e'];rfl,Bool.and_eq_true_iff.trans ⟨λz=>by rw [hc.mp z.1,hd.mp z.2],λz=>⟨hc.mpr (List.cons.inj z).1,hd.mpr (List.cons.inj z).2⟩⟩⟩
theorem i7 {x y:Nat} {l m:List AV} (h1:s.get x=some (.list l)) (h2:s.get y=some (.list m)) (h:l.length≠m.length∨ae PE l m): ∃c:Bool,fF .ne (.ref x) (.ref y) s=some c/\(c=false↔l=m):=by
 rcases h with h|h
 ·exact ⟨true,iM h1 h2 (r:=false) (if_neg h),iff_of_false Bool.noConfusion λz=>h (congrArg _ z)⟩
 ·obtain ⟨c,e,hc⟩:=oF h
  exact ⟨!c,iM h1 h2 ((if_pos h.len).trans e),(Bool.not_eq_false' c).to_iff.trans hc⟩
theorem j1 {kd:Kd} {i st mn ac:Nat} {ex:Bool} (h:kd= .az):lookV (.obj kd i st mn ex ac)= [.str kd.code, .bool ex]:=by rw [lookV,if_pos h];rfl
theorem j3 {kd:Kd} {i st mn ac:Nat} {ex:Bool} (h:kd≠ .az):lookV (.obj kd i st mn ex ac)= [.str kd.code, .bool ex, .int (st:Nat), .int (mn:Nat), .int (ac:Nat)]:=by rw [lookV,if_neg h];rfl
theorem zh {l1 l2:Nat} {kd bM:Kd} {i j st st' mn mn' ac ac':Nat} {ex ex':Bool} (h1:s.get l1=some (.list (lookV (.obj kd i st mn ex ac)))) (h2:s.get l2=some (.list (lookV (.obj bM j st' mn' ex' ac')))):
  ∃c:Bool,fF .ne (.ref l1) (.ref l2) s=some c/\(c=false↔OM (.obj kd i st mn ex ac) (.obj bM j st' mn' ex' ac')):=by
 by_cases hk:kd= .az<;>by_cases f9:bM= .az
 ·rw [j1 hk] at h1
  rw [j1 f9] at h2
  obtain ⟨c,e,hc⟩:=i7 h1 h2 (.inr (.cons qd (.cons ue .nil)))
  refine ⟨c,e,hc.trans ⟨λz=>⟨hk.trans f9.symm,AV.bool.inj (List.cons.inj (List.cons.inj z).2).1,λn=>absurd hk n⟩,λz=>by rw [z.1,z.2.1]⟩⟩
 ·rw [j1 hk] at h1
  rw [j3 f9] at h2
  obtain ⟨c,e,hc⟩:=i7 h1 h2 (.inl (of_decide_eq_false (p:=_=_) rfl))
  exact ⟨c,e,hc.trans (iff_of_false (λz=>nomatch congrArg List.length z) λz=>f9 (z.1.symm.trans hk))⟩
 ·rw [j3 hk] at h1
  rw [j1 f9] at h2
  obtain ⟨c,e,hc⟩:=i7 h1 h2 (.inl (of_decide_eq_false (p:=_=_) rfl))
  exact ⟨c,e,hc.trans (iff_of_false (λz=>nomatch congrArg List.length z) λz=>hk (z.1.trans f9))⟩
 ·rw [j3 hk] at h1
  rw [j3 f9] at h2
  obtain ⟨c,e,hc⟩:=i7 h1 h2 (.inr (.cons qd (.cons ue (.cons kH (.cons kH (.cons kH .nil))))))
  refine ⟨c,e,hc.trans ⟨λz=> ?_,λz=> ?_⟩⟩
  ·have z:=List.cons.inj z
   have z2:=List.cons.inj z.2
   have z3:=List.cons.inj z2.2
   have z4:=List.cons.inj z3.2
   have z5:=List.cons.inj z4.2
   exact ⟨Kd.code_inj (AV.str.inj z.1),AV.bool.inj z2.1,λ_=>⟨Int.ofNat.inj (AV.int.inj z3.1),Int.ofNat.inj (AV.int.inj z4.1),Int.ofNat.inj (AV.int.inj z5.1)⟩⟩
  ·obtain ⟨z1,z2,z3⟩:=z
   obtain ⟨z4,z5,z6⟩:=z3 hk
   rw [z1,z2,z4,z5,z6]
theorem Dz {x y:Nat} {a b:It} (h1:s.get x=some (.list (itV a))) (h2:s.get y=some (.list (itV b))) (h:isNum a∨isNum b): ∃c:Bool,fF .ne (.ref x) (.ref y) s=some c/\(c=false↔a=b)/\(c=false->isNum a):=by
 cases a with
 |num k=>cases b with
  |num k'=>
   obtain ⟨c,e,hc⟩:=i7 h1 h2 (.inr (.cons qd (.cons kH .nil)))
   exact ⟨c,e,hc.trans ⟨λz=>congrArg It.num (Int.ofNat.inj (AV.int.inj (List.cons.inj (List.cons.inj z).2).1)),congrArg itV⟩,λ_=>trivial⟩
  |obj kd i st mn ex ac=>
   obtain ⟨c,e,hc⟩:=i7 h1 h2 (.inl (by show 2≠6;decide))
   exact ⟨c,e,hc.trans ⟨λz=>(nomatch congrArg List.length z),congrArg itV⟩,λ_=>trivial⟩
 |obj kd i st mn ex ac=>cases b with
  |num k'=>
   obtain ⟨c,e,hc⟩:=i7 h1 h2 (.inl (by show 6≠2;decide))
   exact ⟨c,e,hc.trans ⟨λz=>(nomatch congrArg List.length z),congrArg itV⟩,λz=>nomatch congrArg List.length (hc.mp z)⟩
  |obj=>exact (h.elim id id).elim
theorem uc: ∀{l m:List Nat},l.length=m.length->ae PE (l.map λx=>AV.int ((x:Nat):Int)) (m.map λx=>AV.int ((x:Nat):Int))
 | [], [],_=> .nil
 |_::_,_::_,h=> .cons kH (uc (Nat.succ.inj h))
theorem rC: ∀{l m:List Nat},(l.map λx=>AV.int ((x:Nat):Int))=(m.map λx=>AV.int ((x:Nat):Int))->l=m
 | [], [],_=>rfl
 |_::_,_::_,h=>by rw [Int.ofNat.inj (AV.int.inj (List.cons.inj h).1),rC (List.cons.inj h).2]
noncomputable def mD (M:List (Nat×Nat)):List (AV×AV):=M.map λp=>(.int (p.1:Nat), .int (p.2:Nat))
theorem Pj (a b:Nat):cC s (.int (a:Nat)) (.int (b:Nat))=some (decide (a=b)):=congrArg some (decide_eq_decide.mpr Int.ofNat_inj)
theorem rL (i:Nat): ∀(M:List (Nat×Nat)),dget s (.int (i:Nat)) (mD M)=some ((M.lookup i).map λj=> .int (j:Nat))
 | []=>rfl
 |p::M=>by
  rw [mD,List.map_cons,dget,Pj,List.lookup_cons]
  by_cases h:p.1=i
  ·rw [decide_eq_true h,h,beq_self_eq_true];rfl
  ·rw [decide_eq_false h,beq_eq_false_iff_ne.mpr (Ne.symm h)]
   exact rL i M
theorem xa (i j:Nat): ∀(M:List (Nat×Nat)),(∀p∈M,p.1≠i)->dput s (.int (i:Nat)) (.int (j:Nat)) (mD M)=some (mD (M++ [(i,j)]))
 | [],_=>rfl
 |p::M,h=>by
  have:=xa i j M λq hq=>h q (List.mem_cons_of_mem _ hq)
  rw [mD,List.map_cons,dput,Pj,decide_eq_false (h p List.mem_cons_self)]
  exact congrArg (Option.map _) this
noncomputable def QE (σ s:a0) (e:It×It×Nat) (v:AV):Prop:= ∃t x y,v= .ref t/\s.get t=some (.tup [.ref x, .ref y, .int (e.2.2:Nat)])/\σ.get x=some (.list (itV e.1))/\σ.get y=some (.list (itV e.2.1))
theorem QE.keep {s':a0} {e:It×It×Nat} {v:AV} (h:QE σ s e v) (k: ∀i xs,s.get i=some (.tup xs)->s'.get i=some (.tup xs)):QE σ s' e v:=by
 obtain ⟨t,x,y,h1,h2,h3⟩:=h;exact ⟨t,x,y,h1,k _ _ h2,h3⟩
theorem qy {x:Nat} {o o':AO} (h:s.get x=some o) (hn: ∀xs,o≠ .tup xs): ∀i xs,s.get i=some (.tup xs)->(s.set x o').get i=some (.tup xs):=λi xs e=>
 (av λz=>hn _ (Option.some.inj (h.symm.trans (z▸e)))).trans e
structure UE (ρ:Loc) (LQ MA BA nd fd a:Nat):Prop where
 jP:ρ 41=some (.ref LQ)
 nN:ρ 86=some (.ref MA)
 px:ρ 87=some (.ref BA)
 lX:ρ 83=some (.ref nd)
 lY:ρ 84=some (.ref fd)
 pz:ρ 88=some (.int (a:Nat))
structure US (σ:a0) (nr fr:Sh) (q:List (It×It×Nat)) (M:List (Nat×Nat)) (s:a0) (LQ MA BA a:Nat):Prop where
 g:Gr no σ s
 lq:σ.n≤LQ
 ma:σ.n≤MA
 ba:σ.n≤BA
 ne:MA≠BA
 l: ∃all:List AV,s.get LQ=some (.list all)/\a≤all.length/\all.length≤3+3*M.length/\ae (QE σ s) q (all.drop a)
 m:s.get MA=some (.dict (mD M.reverse))
 b:s.get BA=some (.dict (mD (M.reverse.map λp=>(p.2,p.1))))
 nd:(M.map (·.1)).Nodup
 lt: ∀p∈M,p.1<nr.bs.length
 ok: ∀e∈q,aZ nr.bs e.1/\aZ fr.bs e.2.1
theorem xV {r bN:Nat} {hi:Option Nat} {xs:List AV} (h:s.get r=some (.list xs)) (hc:xs.length≤aw):CK (.ref r) bN hi s=some (.ref s.n,s.new (.list (cut bN hi xs))):=by
 exact (aB h).trans (if_pos hc)
noncomputable def Co:IE:= .comp (.bin .add (.list [(.idx (.var 91) (.lit (.int 0))),(.idx (.var 91) (.lit (.int 4)))]) (.ite (.cmp .eq (.idx (.var 91) (.lit (.int 0))) (.lit (.str 16))) (.list []) (.bin .add (.sl (.var 91) 2 (some 4)) (.sl (.var 91) 5 none)))) (.name 91) .of [(.tup [(.var 31),(.var 85)])] [] []
noncomputable def Hv:IE:=match Co with| .comp e _ _ _ _ _=>e|_=> .fail
theorem zX {n z:Nat} {it:It} {ρ:Loc} (D:aR s) (hn: ¬isNum it) (h:s.get z=some (.list (itV it))) {Q:AV->a0->Prop} (hQ: ∀r s',s'.get r=some (.list (lookV it))->Gr no s s'->Q (.ref r) s'):wE (callI n) Hv (ρ.put 91 (.ref z)) s Q:=by
 cases it with
 |num k=>exact absurd trivial hn
 |obj kd i st mn ex ac=>
  have h:s.get z=some (.list (eU kd i st mn ex ac)):=h
  have g2:=Gr.new D (.list [.str kd.code, .bool ex])
  have h2:=g2.ext _ _ h
  by_cases hd:kd= .az
  ·rw [j1 hd] at hQ
   have g3:=Gr.new g2.ar (.list [])
   refine a9 (i0 h) (a9 (i4 h) (a9 (i0 h2) (bb (by rw [hd];rfl:decide (kd.code=16)=true) ?_)))
   exact bw (gV (g3.ext _ _ af) af (Nat.le_of_ble_eq_true rfl)) (hQ _ _ af (g2.then (g3.then (Gr.new g3.ar _))))
  ·rw [j3 hd] at hQ
   have g3:=Gr.new g2.ar (.list [.int (st:Nat), .int (mn:Nat)])
   have g4:=Gr.new g3.ar (.list [.int (ac:Nat)])
   have g5:=Gr.new g4.ar (.list [.int (st:Nat), .int (mn:Nat), .int (ac:Nat)])
   refine a9 (i0 h) (a9 (i4 h) (a9 (i0 h2) (aG (decide_eq_false (oh kd hd)) (?_:oB _ _))))
   exact jh (xV h2 (Nat.le_of_ble_eq_true rfl)) (jh (xV (g3.ext _ _ h2) (Nat.le_of_ble_eq_true rfl)) (bw (gV (g4.ext _ _ af) af (Nat.le_of_ble_eq_true rfl)) (bw (gV ((g3.then (g4.then g5)).ext _ _ af) af (Nat.le_of_ble_eq_true rfl)) (hQ _ _ af (g2.then (g3.then (g4.then (g5.then (Gr.new g5.ar _)))))))))
theorem AQ {n x y:Nat} {a b:It} (D:aR s) (ha: ¬isNum a) (hb: ¬isNum b) (h1:s.get x=some (.list (itV a))) (h2:s.get y=some (.list (itV b))) {ρ:Loc} (r1:ρ 31=some (.ref x)) (r2:ρ 85=some (.ref y))
  {Q:AV->a0->Prop} (hQ: ∀R l1 l2 s',s'.get R=some (.list [.ref l1, .ref l2])->s'.get l1=some (.list (lookV a))->s'.get l2=some (.list (lookV b))->Gr no s s'->Q (.ref R) s'):wE (callI n) Co ρ s Q:=by
 have g1:=Gr.new D (.tup [.ref x, .ref y])
 refine aa r1 (aa r2 (a9 (GZ af) (?_:bE _ _ _ _ _ _ _ _ _ _)))
 refine bC [[.ref x], [.ref y]] (λk acc ρ s'=>Gr no (s.new (.tup [.ref x, .ref y])) s'/\ae (λit v=> ∃r,v= .ref r/\s'.get r=some (.list (lookV it))) ([a,b].take k) acc) ?_ ?_ ?_ turns 0 [] _ _ (Nat.zero_le _) (by rw [aP];exact Nat.le_of_ble_eq_true rfl) ⟨Gr.refl g1.ar, .nil⟩
 ·rintro k acc ρ s' ⟨g,_⟩
  exact EN (g.ext _ _ af)
 ·rintro k acc ρ s' vs ⟨g,A⟩ hx K hK
  obtain ⟨it,z,rfl,hz,hn,hk⟩: ∃it z,vs= [.ref z]/\s.get z=some (.list (itV it))/\ ¬isNum it/\ [a,b][k]?=some it:=by
   match k,hx with
   |0,hx=>exact ⟨a,x,(Option.some.inj hx).symm,h1,ha,rfl⟩
   |1,hx=>exact ⟨b,y,(Option.some.inj hx).symm,h2,hb,rfl⟩
  refine zX g.ar hn (g.ext _ _ (g1.ext _ _ hz)) λr s2 e g2=>hK _ _ _ ⟨g.then g2, ?_⟩
  rw [List.take_add_one,hk]
  exact ae.app (.cons ⟨_,rfl,e⟩ .nil) (A.imp λit v ⟨r,h1,h2⟩=>⟨r,h1,g2.ext _ _ h2⟩)
 ·rintro acc ρ s' ⟨g,A⟩
  have g2:=Gr.new g.ar (.list acc)
  have A:ae _ [a,b] acc:=A
  cases A with
  |cons h1 t1=>
   cases t1 with
   |cons h2 t2=>
    cases t2
    obtain ⟨l1,rfl,q1⟩:=h1
    obtain ⟨l2,rfl,q2⟩:=h2
    exact hQ _ l1 l2 _ af (g2.ext _ _ q1) (g2.ext _ _ q2) (g1.then (g.then g2))
end
section
variable {σ s s1:a0} {lo bN:Nat} {nr fr:Sh} {nd fd LQ MA BA a lim n:Nat} {q:List (It×It×Nat)} {M:List (Nat×Nat)} {ρ:Loc} {N:Loc->a0->Prop} {P:KF} {C:aD}
theorem US.ext (U:US σ nr fr q M s LQ MA BA a) (g:Gr no s s1):US σ nr fr q M s1 LQ MA BA a:=
 ⟨U.g.then g,U.lq,U.ma,U.ba,U.ne,let ⟨all,h1,h2,h3,h4⟩:=U.l;⟨all,g.ext _ _ h1,h2,h3,h4.imp λ_ _ z=>z.keep λi xs e=>g.ext _ _ e⟩,g.ext _ _ U.m,g.ext _ _ U.b,U.nd,U.lt,U.ok⟩
theorem US.small (U:US σ nr fr q M s LQ MA BA a):M.length≤nr.bs.length:=by
 have:=fC _ _ U.nd (λz hz=>by obtain ⟨p,hp,rfl⟩:=List.mem_map.mp hz;exact U.lt p hp)
 rwa [List.length_map] at this
noncomputable def SR (res:Option Nat):Fl:=match res with
 |none=> .next
 |some l=> .ret (.int (l:Nat))
noncomputable def nV (σ:a0) (nr fr:Sh) (q:List (It×It×Nat)) (M:List (Nat×Nat)) (P:KF):Prop:= ∀res ρ' s',dF nr fr q M res->Gr no σ s'->P (SR res) ρ' s'
noncomputable def NN (σ:a0) (nr fr:Sh) (nd fd lim:Nat) (N:Loc->a0->Prop) (P:KF):Prop:= ∀q M ρ s LQ MA BA a,UE ρ LQ MA BA nd fd a->US σ nr fr q M s LQ MA BA a->q.length+4*(nr.bs.length-M.length)<lim->nV σ nr fr q M P->N ρ s
structure UC (σ:a0) (lo bN:Nat) (nr fr:Sh) (nd fd:Nat):Prop where
 Db:aR σ
 N1:fN σ lo nr nd
 F1:fN σ bN fr fd
 W:WF nr
 W':WF fr
theorem iS {i j:Nat}: ∀{L:List (Nat×Nat)},L.lookup i=some j->(i,j)∈L
 |p::L,h=>by
  rw [List.lookup_cons] at h
  by_cases e:i=p.1
  ·rw [e,beq_self_eq_true] at h
   cases h
   rw [e]
   exact List.mem_cons_self
  ·rw [beq_eq_false_iff_ne.mpr e] at h
   exact List.mem_cons_of_mem _ (iS h)
theorem nU {i:Nat}: ∀{L:List (Nat×Nat)},L.lookup i=none-> ∀p∈L,p.1≠i
 |p::L,h,x,hx=>by
  rw [List.lookup_cons] at h
  by_cases e:i=p.1
  ·rw [e,beq_self_eq_true] at h
   cases h
  ·rw [beq_eq_false_iff_ne.mpr e] at h
   rcases List.mem_cons.mp hx with rfl|hx
   ·exact Ne.symm e
   ·exact nU h x hx
theorem Hm {D:Nat} {L:List (Nat×Nat)} (h:s.get D=some (.dict (mD L))) (i j:Nat):d7 (.ref D) 55 [.int (i:Nat), .int (j:Nat)] s=some (.int (((L.lookup i).getD j:Nat):Int),s):=by
 have e:cJ s (.int (i:Nat)) (mD L)=_:=(if_pos rfl).trans (rL i L)
 refine (aB h).trans ?_
 show (match cJ s (.int (i:Nat)) (mD L) with|some o=>some (o.getD (.int (j:Nat)),s)|none=>none)=_
 rw [e]
 cases L.lookup i<;>rfl
theorem Tp {D:Nat} {L:List (Nat×Nat)} (h:s.get D=some (.dict (mD L))) (i:Nat):fF .isin (.int (i:Nat)) (.ref D) s=some (L.lookup i).isSome:=by
 have e:cJ s (.int (i:Nat)) (mD L)=_:=(if_pos rfl).trans (rL i L)
 have h':inv (.int (i:Nat)) (.ref D) s=(cJ s (.int (i:Nat)) (mD L)).map (·.isSome):=aB h
 refine h'.trans ?_
 rw [e]
 cases L.lookup i<;>rfl
theorem FG {D:Nat} {L:List (Nat×Nat)} (h:s.get D=some (.dict (mD L))) (hl:L.length≤100) {i j:Nat} (hn: ∀p∈L,p.1≠i):gi (.ref D) (.int (i:Nat)) (.int (j:Nat)) s=some (s.set D (.dict (mD (L++ [(i,j)])))):=
 j8 h (by rw [mD,List.length_map];unfold aw;exact MJ hl) ((if_pos rfl).trans (xa i j L hn))
theorem QE.set {D:Nat} {es:List (AV×AV)} {o:AO} (h:s.get D=some (.dict es)) {e:It×It×Nat} {v:AV} (z:QE σ s e v):QE σ (s.set D o) e v:=z.keep (qy h λ_ e=>by cases e)
theorem US.pair {i j:Nat} (K:UC σ lo bN nr fr nd fd) (U:US σ nr fr q M s LQ MA BA a) (hn: ∀p∈M,p.1≠i) (hi:i<nr.bs.length):(((i,j)::M).map (·.1)).Nodup/\(∀p∈(i,j)::M,p.1<nr.bs.length)/\M.length+1≤nr.bs.length:=by
 have Jy:(((i,j)::M).map (·.1)).Nodup:=List.nodup_cons.mpr ⟨λz=>by
  obtain ⟨p,hp,e⟩:=List.mem_map.mp z
  exact hn p hp e,U.nd⟩
 have Jz: ∀p∈(i,j)::M,p.1<nr.bs.length:=λp hp=>by
  rcases List.mem_cons.mp hp with rfl|hp
  ·exact hi
  ·exact U.lt p hp
 have:=fC _ _ Jy (λz hz=>by obtain ⟨p,hp,rfl⟩:=List.mem_map.mp hz;exact Jz p hp)
 rw [List.length_map] at this
 exact ⟨Jy,Jz,this⟩
theorem Er (i j:Nat):(M.reverse.map λp:Nat×Nat=>(p.2,p.1))++ [(j,i)]=(((i,j)::M).reverse.map λp=>(p.2,p.1)):=by rw [List.reverse_cons,List.map_append];rfl
section
variable {kd:Kd} {i j l st mn ac st' mn' ac' qb nO T T':Nat} {ex:Bool} {bd cP:Bd}
structure UB (σ:a0) (nr fr:Sh) (kd:Kd) (i j qb T nO T':Nat) (bd cP:Bd):Prop where
 hb:nr.bs[i]?=some bd
 nH:fr.bs[j]?=some cP
 hk:bd.kd=kd
 f9:cP.kd=kd
 bok:bk nr.bs bd
 w4:bk fr.bs cP
 b4:σ.get qb=some (.list [.str kd.code, .ref T, .int (bd.ac:Nat)])
 c4:σ.get nO=some (.list [.str kd.code, .ref T', .int (cP.ac:Nat)])
 b5:kd= .str->σ.get T=some (.list (bd.ocs.map λx=>AV.int ((x:Nat):Int)))
 c5:kd= .str->σ.get T'=some (.list (cP.ocs.map λx=>AV.int ((x:Nat):Int)))
 b6:kd≠ .str-> ∃vs lo,σ.get T=some (.list vs)/\ae (bt σ lo) bd.aj vs
 c6:kd≠ .str-> ∃vs lo,σ.get T'=some (.list vs)/\ae (bt σ lo) cP.aj vs
theorem yk {α β γ:Type} {l:List α} {m:List β} {k:Nat} {x:α} {y:β} (g:α×β->γ) (h:l[k]?=some x) (h':m[k]?=some y):((l.zip m).map g)[k]?=some (g (x,y)):=by
 rw [List.getElem?_map,(List.getElem?_zip_eq_some (z:=(x,y))).mpr ⟨h,h'⟩];rfl
theorem HY (K:UC σ lo bN nr fr nd fd) (B:UB σ nr fr kd i j qb T nO T' bd cP) (hN:NN σ nr fr nd fd lim N P) (E:UE ρ LQ MA BA nd fd a) (U:US σ nr fr q ((i,j)::M) s LQ MA BA a) (dV:kd≠ .str) (hf:q.length+3+4*(nr.bs.length-(M.length+1))<lim) (pv:bd.aj.length=cP.aj.length) (JA: ∀all,s.get LQ=some (.list all)->all.length≤3+3*M.length)
  (jO:ρ 20=some (.ref qb)) (yZ:ρ 92=some (.ref nO)) (fb:ρ 89=some (.int (l:Nat))) (hP:nV σ nr fr (q++(bd.aj.zip cP.aj).map λp=>(p.1,p.2,l+1)) ((i,j)::M) P):wSs C (lg.drop 10) ρ s (fU N P):=by
 obtain ⟨vs,lo1,e1,e2⟩:=B.b6 dV
 obtain ⟨lU,Wa,Ve,PW⟩:=B.c6 dV
 have pq:=e2.len
 have sk:=PW.len
 have Dj:=mE B.bok
 have b4:=U.g.ext _ _ B.b4
 have hT:=U.g.ext _ _ e1
 have Dk:=U.g.ext _ _ Ve
 have dQ:((vs.zip lU).map λp=> [p.1,p.2]).length=bd.aj.length:=by rw [List.length_map,List.length_zip];exact C5 pv pq sk
 have PX:=U.small
 rw [List.length_cons] at PX
 have hW:=K.W.nb
 refine aa jO (a9 (i0 b4) (bb (nS kd dV) (aa E.jP (aa jO (a9 (i1 b4) (aa yZ (a9 (i1 (U.g.ext _ _ B.c4)) (a9 (rq hT Dk) (?_:bE _ _ _ _ _ _ _ _ _ _)))))))))
 refine bC ((vs.zip lU).map λp=> [p.1,p.2]) (λk acc ρ3 s'=>ρ3 89=some (.int (l:Nat))/\Gr no s s'/\ae (QE σ s') (((bd.aj.zip cP.aj).map λp=>(p.1,p.2,l+1)).take k) acc) ?_ ?_ ?_ turns 0 [] _ _ (Nat.zero_le _) (by rw [dQ,aP];exact ze Dj) ⟨by exact fb,Gr.refl U.g.ar, .nil⟩
 ·rintro k acc ρ3 s' ⟨_,g',_⟩
  exact nT (g'.ext _ _ hT) (g'.ext _ _ Dk) (by exact Cn pv pq sk)
 ·rintro k acc ρ3 s' ws ⟨PY,g',A⟩ hx Q hQ
  rw [List.getElem?_map] at hx
  obtain ⟨⟨z1,z2⟩,hz,rfl⟩:=Option.map_eq_some_iff.mp hx
  obtain ⟨yT,yS⟩:=List.getElem?_zip_eq_some.mp hz
  obtain ⟨JB,yM,x1,_,rfl,Bk⟩:=e2.get yT
  obtain ⟨JC,rY,x2,_,rfl,Bl⟩:=PW.get yS
  have g6:=Gr.new g'.ar (.tup [.ref x1, .ref x2, .int ((l+1:Nat):Int)])
  refine (?_:wE _ _ _ _ _)
  refine aa PY ?_
  refine hQ _ _ _ ⟨PY,g'.then g6, ?_⟩
  rw [List.take_add_one,yk (λp=>(p.1,p.2,l+1)) yM rY]
  exact ae.app (.cons (⟨_,x1,x2,rfl,af,Bk,Bl⟩:QE σ _ (JB,JC,l+1) _) .nil) (A.imp λ_ _ z=>z.keep λi xs e=>g6.ext _ _ e)
 ·rintro acc ρ3 s' ⟨_,g',A⟩
  rw [dQ,List.take_of_length_le (by rw [List.length_map,List.length_zip];exact NJ)] at A
  have uy:=A.len
  rw [List.length_map,List.length_zip] at uy
  have U6:=(U.ext g').ext (Gr.new g'.ar (.list acc))
  obtain ⟨all,q1,q2,q3,q4⟩:=U6.l
  obtain ⟨W6,yR,_⟩:=U.l
  cases ((g'.then (Gr.new g'.ar (.list acc))).ext _ _ yR).symm.trans q1
  have jQ:=JA _ yR
  have d0:s'.n≠LQ:=λz=>absurd (g'.ar _ _ (g'.ext _ _ yR)) (by exact pQ z)
  have Su:d7 (.ref LQ) 74 [.ref s'.n] (s'.new (.list acc))=some (.none,(s'.new (.list acc)).set LQ (.list (all++acc))):=
   (aB q1).trans ((aB af).trans (if_pos (c:=s'.n≠LQ/\all.length+acc.length≤aw) ⟨d0,by unfold aw;exact Kz Dj PX hW uy jQ⟩))
  refine bL ⟨_,yR⟩ q1 (a9 Su ?_)
  have kt: ∀{e v},QE σ (s'.new (.list acc)) e v->QE σ ((s'.new (.list acc)).set LQ (.list (all++acc))) e v:=λz=>z.keep (qy q1 λ_ e=>by cases e)
  have Sv:MA≠LQ:=λz=>by have:=U6.m;rw [z,q1] at this;cases this
  have Sw:BA≠LQ:=λz=>by have:=U6.b;rw [z,q1] at this;cases this
  refine hN (q++(bd.aj.zip cP.aj).map λp=>(p.1,p.2,l+1)) ((i,j)::M) _ _ LQ MA BA a ⟨E.jP,E.nN,E.px,E.lX,E.lY,E.pz⟩ ⟨Gr.bQ K.Db U6.g U6.lq q1,U6.lq,U6.ma,U6.ba,U6.ne,⟨_,aF,by rw [List.length_append];exact I8 q2,by rw [List.length_append,List.length_cons];exact Kw Dj uy jQ, ?_⟩,(av Sv).trans U6.m,(av Sw).trans U6.b,U6.nd,U6.lt, ?_⟩ (by rw [List.length_append,List.length_map,List.length_zip,List.length_cons];exact Ld hf Dj) hP
  ·rw [List.drop_append_of_le_length q2]
   exact ae.app (A.imp λ_ _ z=>kt (z.keep λi xs e=>(Gr.new g'.ar (.list acc)).ext _ _ e)) (q4.imp λ_ _=>kt)
  ·intro e he
   rcases List.mem_append.mp he with he|he
   ·exact U6.ok e he
   ·obtain ⟨p,hp,rfl⟩:=List.mem_map.mp he
    exact ⟨B.bok.aj p.1 (cf hp),B.w4.aj p.2 (bS hp)⟩
theorem L9 (K:UC σ lo bN nr fr nd fd) (B:UB σ nr fr kd i j qb T nO T' bd cP) (hN:NN σ nr fr nd fd lim N P) (E:UE ρ LQ MA BA nd fd a) (U:US σ nr fr q ((i,j)::M) s LQ MA BA a) (hf:q.length+3+4*(nr.bs.length-(M.length+1))<lim) (pv:kd≠ .str->bd.aj.length=cP.aj.length) (JA: ∀all,s.get LQ=some (.list all)->all.length≤3+3*M.length)
  (k3:kd≠ .az->st=st'/\mn=mn'/\ac=ac') (hn: ∀p∈M,p.1≠i/\p.2≠j) (jO:ρ 20=some (.ref qb)) (yZ:ρ 92=some (.ref nO)) (fb:ρ 89=some (.int (l:Nat))) (hP:nV σ nr fr ((.obj kd i st mn ex ac, .obj kd j st' mn' ex ac',l)::q) M P):wSs C (lg.drop 8) ρ s (fU N P):=by
 have b4:=U.g.ext _ _ B.b4
 have c4:=U.g.ext _ _ B.c4
 have more:kd≠ .str->(kd= .az->bd.ac=cP.ac)->wSs C (lg.drop 10) ρ s (fU N P):=λdV j9=>HY K B hN E U dV hf (pv dV) JA jO yZ fb λres ρ' s' h g=>hP res ρ' s' (.more dV k3 hn (by rw [aI B.hb,aI B.nH];exact j9) (by rw [aI B.hb,aI B.nH];exact h)) g
 refine aa jO (a9 (i0 b4) ?_)
 by_cases hd:kd= .az
 ·refine bb (by rw [hd];rfl:decide (kd.code=16)=true) (aa jO (a9 (i2 b4) (aa yZ (a9 (i2 c4) ?_))))
  by_cases j9:bd.ac=cP.ac
  ·refine aG (by rw [j9,decide_eq_true rfl];rfl:(!decide (((bd.ac:Nat):Int)=((cP.ac:Nat):Int)))=false) ?_
   refine aa jO (a9 (i0 b4) ?_)
   refine aG (by rw [hd];rfl:decide (kd.code=19)=false) (aG (rfl:false=false) ?_)
   exact more (by rw [hd];decide) λ_=>j9
  ·have d0:(!decide (((bd.ac:Nat):Int)=((cP.ac:Nat):Int)))=true:=congrArg (!·) (decide_eq_false λz=>j9 (Int.ofNat.inj z))
   refine bb d0 (aa fb ?_)
   subst hd
   exact hP (some l) _ _ (.pZ (by rw [aI B.hb,aI B.nH];exact j9)) U.g
 ·refine aG (decide_eq_false (oh kd hd)) (aG (rfl:false=false) ?_)
  refine aa jO (a9 (i0 b4) ?_)
  by_cases hs:kd= .str
  ·have hT:=U.g.ext _ _ (B.b5 hs)
   have Dk:=U.g.ext _ _ (B.c5 hs)
   have o1:=(B.bok.str (B.hk.trans hs)).2.1
   have Jw:=(B.w4.str (B.f9.trans hs)).2.1
   obtain ⟨c,hc,jR⟩:=i7 hT Dk (.inr (uc (o1.trans Jw.symm)))
   refine bb (by rw [hs];rfl:decide (kd.code=19)=true) (aa jO (a9 (i1 b4) (aa yZ (a9 (i1 c4) (i6 hc ?_)))))
   cases c with
   |true=>
    refine bb (rfl:true=true) (aa fb ?_)
    subst hs
    exact hP (some (l+1)) _ _ (.q8 (by rw [aI B.hb,aI B.nH];exact λz=>by have:=jR.mpr (by rw [z]);cases this)) U.g
   |false=>
    refine aG (rfl:false=false) ?_
    refine aa jO (a9 (i0 b4) ?_)
    refine aG (by rw [hs];rfl:(!decide (kd.code=19))=false) ?_
    refine hN q ((i,j)::M) _ _ LQ MA BA a ⟨E.jP,E.nN,E.px,E.lX,E.lY,E.pz⟩ U (by rw [List.length_cons];exact Mt hf) λres ρ' s' h g=>hP res ρ' s' ?_ g
    subst hs
    obtain ⟨rfl,rfl,rfl⟩:=k3 (by decide)
    exact .q9 hn (by rw [aI B.hb,aI B.nH];exact rC (jR.mp rfl)) h
  ·refine aG (decide_eq_false (iY kd hs)) (aG (rfl:false=false) ?_)
   exact more hs λz=>absurd z hd
end
end
section
variable {σ s s1:a0} {lo bN:Nat} {nr fr:Sh} {nd fd LQ MA BA a lim n:Nat} {q:List (It×It×Nat)} {M:List (Nat×Nat)} {ρ:Loc} {N:Loc->a0->Prop} {P:KF}
variable {kd bM:Kd} {i j l st mn ac st' mn' ac' x y:Nat} {ex ex':Bool}
theorem qS {i j:Nat} (h:(j,i)∈M.reverse.map λp:Nat×Nat=>(p.2,p.1)):(i,j)∈M:=by
 obtain ⟨p,hp,e⟩:=List.mem_map.mp h
 cases e
 exact List.mem_reverse.mp hp
theorem x5 {j:Nat} (h: ∀p∈M.reverse.map (λp:Nat×Nat=>(p.2,p.1)),p.1≠j): ∀p∈M,p.2≠j:=λp hp=>h _ (List.mem_map.mpr ⟨p,List.mem_reverse.mpr hp,rfl⟩)
theorem Iz (K:UC σ lo bN nr fr nd fd) (hN:NN σ nr fr nd fd lim N P) (E:UE ρ LQ MA BA nd fd a) (U:US σ nr fr q M s LQ MA BA a) (hf:q.length+4*(nr.bs.length-M.length)<lim)
  (hx:σ.get x=some (.list (eU kd i st mn ex ac))) (hy:σ.get y=some (.list (eU kd j st' mn' ex ac'))) (okx:aZ nr.bs (.obj kd i st mn ex ac)) (oky:aZ fr.bs (.obj kd j st' mn' ex ac')) (k3:kd≠ .az->st=st'/\mn=mn'/\ac=ac') (hn: ∀p∈M,p.1≠i/\p.2≠j)
  (cu:ρ 31=some (.ref x)) (kY:ρ 85=some (.ref y)) (fb:ρ 89=some (.int (l:Nat))) (hP:nV σ nr fr ((.obj kd i st mn ex ac, .obj kd j st' mn' ex ac',l)::q) M P):wSs (callI n) (lg.drop 6) ρ s (fU N P):=by
 obtain ⟨B,bv,S,sv,n1,n2,n3,n4,n5,n6,n7,n8⟩:=K.N1
 obtain ⟨B',Dc,S',JD,f1,f2,f3,f4,f5,f6,f7,f8⟩:=K.F1
 obtain ⟨⟨bd,aU,yO,Dd⟩,_⟩:=okx
 obtain ⟨⟨cP,om,Bm,Sx⟩,_⟩:=oky
 have il:=(List.getElem?_eq_some_iff.mp aU).1
 have jl:=(List.getElem?_eq_some_iff.mp om).1
 have bok:=K.W.ok bd (List.mem_of_getElem? aU)
 have w4:=K.W'.ok cP (List.mem_of_getElem? om)
 obtain ⟨v,hv,qb,T,_,_,rfl,b4,b5,b6⟩:=n6.get' aU
 obtain ⟨v',sx,nO,T',_,_,rfl,c4,c5,c6⟩:=f6.get' om
 rw [yO] at b4 b5 b6
 rw [Bm] at c4 c5 c6
 have UBB:UB σ nr fr kd i j qb T nO T' bd cP:=⟨aU,om,yO,Bm,bok,w4,b4,c4,b5,c5,λh=>let ⟨vs,h1,h2⟩:=b6 h;⟨vs,lo,h1,h2⟩,λh=>let ⟨vs,h1,h2⟩:=c6 h;⟨vs,bN,h1,h2⟩⟩
 have z0:=U.small
 have nb:=K.W.nb
 have Vf:=K.W'.nb
 obtain ⟨p1,p2,p3⟩:=U.pair (j:=j) K (λp hp=>(hn p hp).1) il
 have g2:=Gr.new U.g.ar (.tup [.int (j:Nat), .int (i:Nat)])
 have U2:=U.ext g2
 have s1m:=FG (i:=i) (j:=j) U2.m (by rw [List.length_reverse];exact BP z0 nb) λp hp=>(hn p (List.mem_reverse.mp hp)).1
 have g3:=Gr.bQ K.Db U2.g U2.ma U2.m (o:= .dict (mD (M.reverse++ [(i,j)])))
 have JE:=(av (o:= .dict (mD (M.reverse++ [(i,j)]))) (Ne.symm U2.ne)).trans U2.b
 have s2b:=FG (i:=j) (j:=i) JE (by rw [List.length_map,List.length_reverse];exact BP z0 nb) λp hp=>by
  obtain ⟨p',JF,rfl⟩:=List.mem_map.mp hp
  exact (hn p' (List.mem_reverse.mp JF)).2
 have lS:=λ{s':a0} (g:Gr no σ s')=>i1 (g.ext _ _ hx)
 have sy:=λ{s':a0} (g:Gr no σ s')=>i1 (g.ext _ _ hy)
 have jQ: ∀{o1 o2:AO} {all:List AV},(s.new (.tup [.int (j:Nat), .int (i:Nat)])).get LQ=some (.list all)->(((s.new (.tup [.int (j:Nat), .int (i:Nat)])).set MA o1).set BA o2).get LQ=some (.list all):=λh=>(av λz=>by have:=U2.b;rw [←z,h] at this;cases this).trans ((av λz=>by have:=U2.m;rw [←z,h] at this;cases this).trans h)
 obtain ⟨all,q1,q2,q3,q4⟩:=U2.l
 have U4:US σ nr fr q ((i,j)::M) (((s.new (.tup [.int (j:Nat), .int (i:Nat)])).set MA (.dict (mD (M.reverse++ [(i,j)])))).set BA (.dict (mD ((M.reverse.map λp=>(p.2,p.1))++ [(j,i)])))) LQ MA BA a:=
  ⟨Gr.bQ K.Db g3 U.ba JE,U.lq,U.ma,U.ba,U.ne,⟨all,jQ q1,q2,Nat.le_trans q3 (by rw [List.length_cons];exact LO),q4.imp λ_ _ z=>(QE.set U2.m z).set JE⟩,(av U.ne).trans (aF.trans (by rw [List.reverse_cons])),aF.trans (by rw [Er]),p1,p2,U.ok⟩
 refine aa kY (a9 (sy U.g) (aa cu (a9 (lS U.g) (a9 (cQ af) (aa E.nN (aa cu (a9 (lS U2.g) (a9 s1m (aa E.px (aa kY (a9 (sy g3) (a9 s2b ?_))))))))))))
 have g5:=Gr.new U4.g.ar (.tup [.ref qb, .ref nO])
 have so:=jQ (o1:= .dict (mD (M.reverse++ [(i,j)]))) (o2:= .dict (mD ((M.reverse.map λp=>(p.2,p.1))++ [(j,i)]))) q1
 refine aa E.lX (a9 (gw (U4.g.ext _ _ n4)) (aa cu (a9 (lS U4.g) (a9 ((cG (U4.g.ext _ _ n5) (by exact Bt il nb)).trans hv) (aa E.lY (a9 (gw (U4.g.ext _ _ f4)) (aa kY (a9 (sy U4.g) (a9 ((cG (U4.g.ext _ _ f5) (by exact Bt jl Vf)).trans sx) (?_:oB _ _))))))))))
 refine a9 (cQ af) ?_
 refine (?_:wSs _ _ _ _ _)
 exact L9 K UBB hN ⟨E.jP,E.nN,E.px,E.lX,E.lY,E.pz⟩ (U4.ext g5) (by exact Mb hf p3) (λdV=>by
  have:=nY (ex:=ex) (ex':=ex) K.W.ok K.W'.ok dV (h:=(⟨⟨bd,aU,yO,Dd⟩,by assumption⟩:aZ nr.bs (.obj kd i st mn ex ac))) (h':=(⟨⟨cP,om,Bm,Sx⟩,by assumption⟩:aZ fr.bs (.obj kd j st' mn' ex ac'))) λz=>⟨(k3 z).1,(k3 z).2.1⟩
  rwa [aI aU,aI om] at this) (λal h=>by
  cases (g5.ext _ _ so).symm.trans h
  exact q3) k3 hn rfl rfl (by exact fb) hP
theorem Gd (K:UC σ lo bN nr fr nd fd) (hN:NN σ nr fr nd fd lim N P) (E:UE ρ LQ MA BA nd fd a) (U:US σ nr fr q M s LQ MA BA a) (hf:q.length+4*(nr.bs.length-M.length)<lim)
  (hx:σ.get x=some (.list (eU kd i st mn ex ac))) (hy:σ.get y=some (.list (eU bM j st' mn' ex' ac'))) (okx:aZ nr.bs (.obj kd i st mn ex ac)) (oky:aZ fr.bs (.obj bM j st' mn' ex' ac'))
  (cu:ρ 31=some (.ref x)) (kY:ρ 85=some (.ref y)) (fb:ρ 89=some (.int (l:Nat))) (hP:nV σ nr fr ((.obj kd i st mn ex ac, .obj bM j st' mn' ex' ac',l)::q) M P):wSs (callI n) (lg.drop 3) ρ s (fU N P):=by
 refine AQ (a:= .obj kd i st mn ex ac) (b:= .obj bM j st' mn' ex' ac') U.g.ar (λh=>h) (λh=>h) (U.g.ext _ _ hx) (U.g.ext _ _ hy) cu kY λR l1 l2 s1 hR Vg ug g1=> ?_
 have U1:=U.ext g1
 have lS:=i1 (U1.g.ext _ _ hx)
 have sy:=i1 (U1.g.ext _ _ hy)
 obtain ⟨c,hc,jR⟩:=zh Vg ug
 have i1R:bT (.ref R) (.int 1) s1=some (.ref l2):=i1 hR
 refine (?_:wSs _ _ _ _ _)
 refine a9 (i0 hR) (a9 i1R (i6 hc ?_))
 cases c with
 |true=>
  refine bb (rfl:true=true) (bb (rfl:true=true) (aa fb ?_))
  refine hP (some l) _ _ (.nM ?_) U1.g
  have nk: ¬OM (.obj kd i st mn ex ac) (.obj bM j st' mn' ex' ac'):=λh=>by have:=jR.mpr h;cases this
  by_cases h1:kd=bM
  ·by_cases h2:ex=ex'
   ·by_cases h3:kd= .az
    ·exact absurd ⟨h1,h2,λz=>absurd h3 z⟩ nk
    ·refine .inr (.inr ⟨h3, ?_⟩)
     by_cases h4:st=st'
     ·by_cases h5:mn=mn'
      ·exact .inr (.inr λh6=>nk ⟨h1,h2,λ_=>⟨h4,h5,h6⟩⟩)
      ·exact .inr (.inl h5)
     ·exact .inl h4
   ·exact .inr (.inl h2)
  ·exact .inl h1
 |false=>
  obtain ⟨rfl,rfl,k3⟩:=jR.mp rfl
  refine aG (rfl:false=false) (aa E.nN (aa cu (a9 lS (aa kY (a9 sy (hJ ⟨_,U1.m⟩ U1.m (a9 (Hm U1.m i j) (aa kY (a9 sy ?_)))))))))
  by_cases q1:(M.reverse.lookup i).getD j=j
  ·have e1:(!decide ((((M.reverse.lookup i).getD j:Nat):Int)=((j:Nat):Int)))=false:=congrArg (!·) (decide_eq_true (congrArg _ q1))
   refine aG e1 (aa E.px (aa kY (a9 sy (aa cu (a9 lS (hJ ⟨_,U1.b⟩ U1.b (a9 (Hm U1.b j i) (aa cu (a9 lS ?_)))))))))
   by_cases q2:((M.reverse.map λp=>(p.2,p.1)).lookup j).getD i=i
   ·have e2:(!decide (((((M.reverse.map λp=>(p.2,p.1)).lookup j).getD i:Nat):Int)=((i:Nat):Int)))=false:=congrArg (!·) (decide_eq_true (congrArg _ q2))
    refine aG e2 (aa cu (a9 lS (aa E.nN (i6 (Tp U1.m i) ?_))))
    cases hk:M.reverse.lookup i with
    |some j2=>
     rw [hk] at q1
     cases (show j2=j from q1)
     refine bb (rfl:true=true) ?_
     exact hN q M _ _ LQ MA BA a ⟨E.jP,E.nN,E.px,E.lX,E.lY,E.pz⟩ U1 hf λres ρ' s' h g=>hP res ρ' s' (.known k3 (List.mem_reverse.mp (iS hk)) h) g
    |none=>
     refine aG (rfl:false=false) ?_
     have PZ:=nU hk
     have D7: ∀p∈M,p.2≠j:=by
      cases ij:(M.reverse.map λp=>(p.2,p.1)).lookup j with
      |some i2=>
       rw [ij] at q2
       cases (show i2=i from q2)
       exact absurd rfl (PZ _ (List.mem_reverse.mpr (qS (iS ij))))
      |none=>exact x5 (nU ij)
     refine (?_:wSs _ _ _ _ _)
     exact Iz (ρ:=ρ.put 90 (.ref R)) K hN ⟨E.jP,E.nN,E.px,E.lX,E.lY,E.pz⟩ U1 hf hx hy okx oky k3 (λp hp=>⟨PZ p (List.mem_reverse.mpr hp),D7 p hp⟩) cu kY fb hP
   ·have e2:(!decide (((((M.reverse.map λp=>(p.2,p.1)).lookup j).getD i:Nat):Int)=((i:Nat):Int)))=true:=congrArg (!·) (decide_eq_false λz=>q2 (Int.ofNat.inj z))
    refine bb e2 (aa fb ?_)
    refine hP (some l) _ _ (.kX ⟨_,_,_,_,_,rfl⟩ ⟨_,_,_,_,_,rfl⟩ (.inr ?_)) U1.g
    cases ij:(M.reverse.map λp=>(p.2,p.1)).lookup j with
    |some i2=>rw [ij] at q2;exact ⟨i2,qS (iS ij),q2⟩
    |none=>rw [ij] at q2;exact absurd rfl q2
  ·have e1:(!decide ((((M.reverse.lookup i).getD j:Nat):Int)=((j:Nat):Int)))=true:=congrArg (!·) (decide_eq_false λz=>q1 (Int.ofNat.inj z))
   refine bb e1 (aa fb ?_)
   refine hP (some l) _ _ (.kX ⟨_,_,_,_,_,rfl⟩ ⟨_,_,_,_,_,rfl⟩ (.inl ?_)) U1.g
   cases hk:M.reverse.lookup i with
   |some j2=>rw [hk] at q1;exact ⟨j2,List.mem_reverse.mp (iS hk),q1⟩
   |none=>rw [hk] at q1;exact absurd rfl q1
theorem xu {it:It} (h:isNum it) {x:Nat} (e:s.get x=some (.list (itV it))):bT (.ref x) (.int 0) s=some (.str 49):=by
 cases it with
 |num k=>exact i0 e
 |obj=>exact h.elim
theorem xB {it:It} (h: ¬isNum it) {x:Nat} (e:s.get x=some (.list (itV it))): ∃k:Kd,bT (.ref x) (.int 0) s=some (.str k.code):=by
 cases it with
 |num k=>exact absurd trivial h
 |obj kd b st mn ex ac=>exact ⟨kd,i0 e⟩
theorem oJ (it:It):isNum it∨ ¬isNum it:=by
 cases it with
 |num k=>exact .inl trivial
 |obj=>exact .inr λh=>h
theorem BE {ia ib:It} (hN:NN σ nr fr nd fd lim N P) (E:UE ρ LQ MA BA nd fd a) (U:US σ nr fr q M s LQ MA BA a) (hf:q.length+4*(nr.bs.length-M.length)<lim)
  (hx:σ.get x=some (.list (itV ia))) (hy:σ.get y=some (.list (itV ib))) (hn:isNum ia∨isNum ib) (cu:ρ 31=some (.ref x)) (kY:ρ 85=some (.ref y)) (fb:ρ 89=some (.int (l:Nat))) (hP:nV σ nr fr ((ia,ib,l)::q) M P) {w:Loc->a0->KF->Prop}:
  wSs (callI n) [.iff (.cmp .ne (.var 31) (.var 85)) [.ret (.var 89)] [], .cont] ρ s (Pk w (fU N P)):=by
 obtain ⟨c,c1,c2,c3⟩:=Dz (U.g.ext _ _ hx) (U.g.ext _ _ hy) hn
 refine aa cu (aa kY (i6 c1 ?_))
 cases c with
 |true=>
  refine bb (rfl:true=true) (aa fb ?_)
  exact hP (some l) _ _ (.pY hn λe=>by have:=c2.mpr e;cases this) U.g
 |false=>
  refine aG (rfl:false=false) ?_
  cases c2.mp rfl
  refine hN q M _ _ LQ MA BA a E U hf λres ρ' s' h g=>hP res ρ' s' ?_ g
  cases ia with
  |num k=>exact .pX h
  |obj=>exact (c3 rfl).elim
theorem Cv (K:UC σ lo bN nr fr nd fd): ∀(f:Nat),NN σ nr fr nd fd f (λρ s=>d9 (wE (callI n) Lk) (wSs (callI n) lg) f ρ s P) P
 |0=>λq M ρ s LQ MA BA a E U hf hP=>absurd hf (Nat.not_lt_zero _)
 |f+1=>λq M ρ s LQ MA BA a E U hf hP=>by
  have IH:=Cv K f
  obtain ⟨all,JG,Dl,sC,hA⟩:=U.l
  have z0:=U.small
  have nb:=K.W.nb
  show d9 _ _ (f+1) ρ s P
  refine uK ?_
  refine aa E.pz (aa E.jP (a9 (len_list JG (by unfold aw;exact Oe sC z0 nb)) ?_))
  by_cases h:a<all.length
  ·refine bb (decide_eq_true (show ((a:Nat):Int)<((all.length:Nat):Int) by exact Nl h)) ?_
   have hd:all.drop a=all[a]::all.drop (a+1):=List.drop_eq_getElem_cons h
   rw [hd] at hA
   generalize hv:all[a]=v at hA
   have sx:all[a]?=some v:=(List.getElem?_eq_getElem h).trans (congrArg some hv)
   cases hA with
   | @cons e _ q' _ hq Vh=>
    obtain ⟨t,x,y,rfl,ht,hx,hy⟩:=hq
    obtain ⟨ia,ib,l⟩:=e
    obtain ⟨okx,oky⟩:=U.ok _ List.mem_cons_self
    have U':US σ nr fr q' M s LQ MA BA (a+1):=⟨U.g,U.lq,U.ma,U.ba,U.ne,⟨all,JG,h,sC,Vh⟩,U.m,U.b,U.nd,U.lt,λe he=>U.ok e (List.mem_cons_of_mem _ he)⟩
    rw [List.length_cons] at hf
    have z8:q'.length+4*(nr.bs.length-M.length)<f:=by exact KD hf
    have E':UE (((((ρ.put 31 (.ref x)).put 85 (.ref y)).put 89 (.int (l:Nat)))).put 88 (.int ((a+1:Nat):Int))) LQ MA BA nd fd (a+1):=⟨E.jP,E.nN,E.px,E.lX,E.lY,rfl⟩
    have D3:=U.g.ext _ _ hx
    have Q0:=U.g.ext _ _ hy
    refine aa E.jP (aa E.pz (a9 ((cG JG (by exact Kg Dl sC z0 nb)).trans sx) (a9 (cQ ht) (aa E.pz (?_:oB _ _)))))
    refine (?_:oB _ _)
    rcases oJ ia with na|na
    ·refine a9 (xu na D3) ?_
     refine (?_:wSs _ _ _ _ _)
     exact BE IH E' U' z8 hx hy (.inl na) rfl rfl rfl hP
    ·obtain ⟨k1,e1⟩:=xB na D3
     refine a9 e1 (aG (decide_eq_false (gG k1)) (?_:oB _ _))
     rcases oJ ib with nb|nb
     ·refine a9 (xu nb Q0) ?_
      refine (?_:wSs _ _ _ _ _)
      exact BE IH E' U' z8 hx hy (.inr nb) rfl rfl rfl hP
     ·obtain ⟨k2,e2⟩:=xB nb Q0
      refine a9 e2 ?_
      refine aG (decide_eq_false (gG k2)) ?_
      refine (?_:wSs _ _ _ _ _)
      cases ia with
      |num k=>exact absurd trivial na
      |obj kd i st mn ex ac=>cases ib with
       |num k=>exact absurd trivial nb
       |obj bM j st' mn' ex' ac'=>exact Gd K IH E' U' z8 hx hy okx oky rfl rfl rfl hP
  ·refine aG (decide_eq_false (show¬((a:Nat):Int)<((all.length:Nat):Int) by exact ML h)) ?_
   rw [List.drop_eq_nil_of_le (Nat.le_of_not_lt h)] at hA
   cases hA
   exact hP none _ _ .done U.g
end
section
variable {σ s:a0} {lo bN:Nat} {nr fr:Sh} {nd fd:Nat}
theorem yI {n:Nat} (D:aR σ) (N1:fN σ lo nr nd) (F1:fN σ bN fr fd) (W:WF nr) (W':WF fr) (hl:nr.st.length=fr.st.length) {Q:AV->a0->Prop}
  (hQ: ∀res σ',dF nr fr ((nr.st.zip fr.st).map λp=>(p.1,p.2,0)) [] res->Gr no σ σ'->Q (match res with|none=> .none|some l=> .int (l:Nat)) σ'):callI (n+1) 17 [.ref nd, .ref fd] σ Q:=by
 refine aC (bs:= [(83, .ref nd),(84, .ref fd)]) rfl rfl ?_
 have K:UC σ lo bN nr fr nd fd:=⟨D,N1,F1,W,W'⟩
 obtain ⟨B,bv,S,sv,n1,n2,n3,n4,n5,n6,n7,n8⟩:=N1
 obtain ⟨B',Dc,S',JD,f1,f2,f3,f4,f5,f6,f7,f8⟩:=F1
 have pq:=n8.len
 have sk:=f8.len
 have w1:=W.ns
 have dQ:((sv.zip JD).map λp=> [p.1,p.2]).length=nr.st.length:=by rw [List.length_map,List.length_zip];exact C5 hl pq sk
 have JH:((nr.st.zip fr.st).map λp=>(p.1,p.2,0)).length=nr.st.length:=by rw [List.length_map,List.length_zip];exact NS hl
 intro R hr hn
 refine (?_:wSs _ _ _ _ _)
 refine a9 (qA n4) (a9 (qA f4) (a9 (rq n7 f7) (?_:bE _ _ _ _ _ _ _ _ _ _)))
 refine bC ((sv.zip JD).map λp=> [p.1,p.2]) (λk acc ρ3 s'=>Gr no σ s'/\ae (QE σ s') (((nr.st.zip fr.st).map λp=>(p.1,p.2,0)).take k) acc) ?_ ?_ ?_ turns 0 [] _ _ (Nat.zero_le _) (by rw [dQ,aP];exact NR w1) ⟨Gr.refl D, .nil⟩
 ·rintro k acc ρ3 s' ⟨g',_⟩
  exact nT (g'.ext _ _ n7) (g'.ext _ _ f7) (by exact Cn hl pq sk)
 ·rintro k acc ρ3 s' ws ⟨g',A⟩ hx Q hQ
  rw [List.getElem?_map] at hx
  obtain ⟨⟨z1,z2⟩,hz,rfl⟩:=Option.map_eq_some_iff.mp hx
  obtain ⟨yT,yS⟩:=List.getElem?_zip_eq_some.mp hz
  obtain ⟨JB,yM,x1,_,rfl,Bk⟩:=n8.get yT
  obtain ⟨JC,rY,x2,_,rfl,Bl⟩:=f8.get yS
  have g6:=Gr.new g'.ar (.tup [.ref x1, .ref x2, .int 0])
  refine (?_:wE _ _ _ _ _)
  refine hQ _ _ _ ⟨g'.then g6, ?_⟩
  rw [List.take_add_one,yk (λp=>(p.1,p.2,0)) yM rY]
  exact ae.app (.cons (⟨_,x1,x2,rfl,af,Bk,Bl⟩:QE σ _ (JB,JC,0) _) .nil) (A.imp λ_ _ z=>z.keep λi xs e=>g6.ext _ _ e)
 ·rintro acc ρ3 s' ⟨g',A⟩
  rw [dQ,List.take_of_length_le (Nat.le_of_eq JH)] at A
  have uy:=A.len
  rw [JH] at uy
  have ga:=Gr.new g'.ar (.list acc)
  have gb:=Gr.new ga.ar (.dict [])
  have gc:=Gr.new gb.ar (.dict [])
  have gd:=Gr.new gc.ar (.tup [.ref (s'.new (.list acc)).n, .ref ((s'.new (.list acc)).new (.dict [])).n, .int 0])
  have G:=g'.then (ga.then (gb.then (gc.then gd)))
  have lT:=g'.n
  refine a9 (cQ af) ?_
  refine (?_:d9 _ _ _ _ _ _)
  refine Cv K turns ((nr.st.zip fr.st).map λp=>(p.1,p.2,0)) [] _ _ s'.n (s'.n+1) (s'.n+1+1) 0 ?_ ⟨G,lT,Nat.le_succ_of_le lT,Nat.le_succ_of_le (Nat.le_succ_of_le lT),Nat.ne_of_lt (Nat.lt_succ_self _),⟨acc,gd.ext _ _ (gc.ext _ _ (gb.ext _ _ af)),Nat.zero_le _,by rw [←uy];exact MR w1,A.imp λ_ _ z=>z.keep λi xs e=>gd.ext _ _ (gc.ext _ _ (gb.ext _ _ (ga.ext _ _ e)))⟩,gd.ext _ _ (gc.ext _ _ af),gd.ext _ _ af,List.nodup_nil,λ_ h=>(nomatch h), ?_⟩ ?_ ?_
  ·exact ⟨rfl,rfl,rfl,rfl,rfl,rfl⟩
  ·intro e he
   obtain ⟨p,hp,rfl⟩:=List.mem_map.mp he
   have p1:=cf hp
   have p2:=bS hp
   exact ⟨W.st _ p1,W'.st _ p2⟩
  ·have:=W.nb
   rw [JH,aP]
   show nr.st.length+4*(nr.bs.length-0)<5000
   exact NZ w1 this
  ·intro res ρ' s2 h1 g2
   have h2:=hQ res s2 h1 g2
   cases res with
   |none=>exact hr _ _ _ h2
   |some l=>exact hr _ _ _ h2
theorem jc (c:Nat): ∀(l cur:List Nat),1≤(splitB c cur l).length/\(splitB c cur l).length≤l.length+1
 | [],cur=>⟨Nat.le_refl _,Nat.le_refl _⟩
 |x::r,cur=>by
  rw [splitB]
  have h1:=jc c r []
  have h2:=jc c r (x::cur)
  by_cases h:x=c
  ·rw [if_pos h];exact ⟨Nat.succ_pos _,Nat.succ_le_succ h1.2⟩
  ·rw [if_neg h];exact ⟨h2.1,Nat.le_succ_of_le h2.2⟩
theorem iz (c:Nat) (b:List Nat): ∀(a cur:List Nat),(splitB c [] b).length+1≤(splitB c cur (a++c::b)).length
 | [],cur=>by rw [List.nil_append,splitB,if_pos rfl];exact Nat.le_refl _
 |x::r,cur=>by
  rw [List.cons_append,splitB]
  by_cases h:x=c
  ·rw [if_pos h];exact Nat.le_succ_of_le (iz c b r [])
  ·rw [if_neg h];exact iz c b r (x::cur)
theorem mZ: ∀(l:List (List Nat)) (cur:List Nat),l.length+1≤(splitB 10 cur (joinB [] (l.map (· ++ [10])))).length
 | [],cur=>Nat.le_refl _
 |a::l,cur=>by
  have hj:joinB [] ((a::l).map (· ++ [10]))=a++10::joinB [] (l.map (· ++ [10])):=by
   cases l<;>simp only [joinB,List.map,List.append_assoc,List.nil_append,List.cons_append]
  rw [hj]
  exact Nat.le_trans (Nat.succ_le_succ (mZ l [])) (iz 10 _ a cur)
theorem sQ {sh:Sh} (W:WF sh) {depth:Nat} (hd:depth≤6):(bf sh depth).length≤900000:=by
 have se:4^depth≤4^6:=Nat.pow_le_pow_right (by decide) hd
 have:=dt [] (60*4^depth+1) ((tellList (tell sh depth) sh.st TS.zero).1.map (· ++ [10])) (by
  intro x hx
  obtain ⟨y,hy,rfl⟩:=List.mem_map.mp hx
  have:=dI (P:=λx=>x.length≤60*4^depth) (Q:=aZ sh.bs) (λit s h=>fh W.ok depth h) sh.st TS.zero W.st y hy
  rw [List.length_append]
  exact Nat.succ_le_succ this)
 rw [List.length_map,dn,List.length_nil] at this
 have h2:=Nat.mul_le_mul_right (60*4^depth+1+0) W.ns.2
 unfold bf
 exact Lj se this h2
theorem lP: ∀(l:List Nat),listEq (l.map AV.ref) (l.map AV.ref)=some true
 | []=>rfl
 |a::l=>by
  have h:eW (.ref a) (.ref a)=some true:=if_pos rfl
  rw [List.map_cons,listEq,h,lP l];rfl
end
section
variable {σ s:a0} {lo bN:Nat} {nr fr:Sh} {nd fd:Nat}
theorem EW {b:List Nat}:(!(b==b))=false:=congrArg (!·) (beq_self_eq_true b)
theorem xU {told:Nat} {a b c:List Nat} (h:s.get told=some (.list [.bytes a, .bytes b, .bytes c])):bT (.ref told) (.int 0) s=some (.bytes a)/\bT (.ref told) (.int 1) s=some (.bytes b)/\bT (.ref told) (.int 2) s=some (.bytes c):=
 ⟨(jd h (by decide)).trans rfl,(jd h (by decide)).trans rfl,(jd h (by decide)).trans rfl⟩
theorem DH {depth:Nat} {ρ:Loc} {R:KF} {told:Nat} {tn tf:List Nat} {res:Option Nat} (uz:s.get told=some (.list [.bytes tn, .bytes tf, .bytes tn])) (fb:ρ 89=some (match res with|none=> .none|some l=> .int (l:Nat))) (same:res=none->tn=tf) (diff: ∀l,res=some l->tn=tf->depth≤l) (uB:ρ 35=some (.int (depth:Nat))) (Dm:ρ 40=some (.ref told)) (hR: ∀ρ' s',R (.ret (.bool true)) ρ' s'):wSs (callI 59) (rV.drop 10) ρ s R:=by
 obtain ⟨i0,i1,i2⟩:=xU uz
 cases res with
 |none=>
  cases same rfl
  refine aa fb ?_
  refine aa Dm (a9 i0 (aa Dm (a9 i1 ?_)))
  have h:(tn==tn)=true:=beq_self_eq_true tn
  show R (.ret (.bool (tn==tn))) _ _
  rw [h]
  exact hR _ _
 |some l=>
  refine aa fb (aa fb ?_)
  refine aa uB ?_
  by_cases yP:depth≤l
  ·refine bb (decide_eq_true (Int.ofNat_le.mpr yP)) ?_
   exact hR _ _
  ·have d0:(tn==tf)=false:=beq_false_of_ne λe=>yP (diff l rfl e)
   refine aG (decide_eq_false (λh=>yP (Int.ofNat_le.mp h))) (aa Dm (a9 i0 (aa Dm (a9 i1 ?_))))
   show R (.ret (.bool (!(tn==tf)))) _ _
   rw [d0]
   exact hR _ _
theorem qs {depth:Nat} {ρ:Loc} {R:KF} (D:aR σ) (N1:fN σ lo nr nd) (F1:fN σ bN fr fd) (W:WF nr) (W':WF fr) (hl:nr.st.length=fr.st.length) (hd:depth≤6) (uB:ρ 35=some (.int (depth:Nat))) (lX:ρ 83=some (.ref nd)) (lY:ρ 84=some (.ref fd)) (hR: ∀ρ' s',R (.ret (.bool true)) ρ' s'):
  wSs (callI 59) (rV.drop 5) ρ σ R:=by
 refine aa lX (?_:callI _ _ _ _ _)
 refine mV (n:=56) (first:=1) (step:=1) D N1 W (by intro a b h;exact vq h) λm1 made1 sD rZ L1 σ1 M1 g1=> ?_
 refine aa lY (?_:callI _ _ _ _ _)
 refine mV (n:=56) (first:=900) (step:=0-7) g1.ar (F1.keep g1.bh) W' (by intro a b h;omega) λm2 made2 Wb Wc L2 σ2 M2 g2=> ?_
 have g3:=Gr.new g2.ar (.tup [.ref m1, .ref m2])
 have M1':=(M1.keep g2.ext).keep g3.ext
 have M2':=M2.keep g3.ext
 have G3:=g1.then (g2.then g3)
 have Bn:=M1'.th.len
 have uk:=W.ns
 have Sy:=W'.ns
 have Vj:fu 60 [.ref L1] (σ2.new (.tup [.ref m1, .ref m2]))=some (.ref (σ2.new (.tup [.ref m1, .ref m2])).n,(σ2.new (.tup [.ref m1, .ref m2])).new (.list (sD.map .ref))):=
  (aB M1'.l).trans (if_pos (by rw [List.length_map];unfold aw;exact Bu Bn uk))
 refine a9 (cQ af) (a9 M1'.a1 (a9 M1'.a2 (a9 Vj ?_)))
 have g4:=Gr.new g3.ar (.list (sD.map .ref))
 have Bo:((σ2.new (.tup [.ref m1, .ref m2])).new (.list (sD.map .ref))).get (σ2.new (.tup [.ref m1, .ref m2])).n=some (.list (sD.map .ref)):=af
 have M1a:=M1'.keep g4.ext
 have M2a:=M2'.keep g4.ext
 have G4:=G3.then g4
 revert Bo M1a M2a G4
 generalize (σ2.new (.tup [.ref m1, .ref m2])).n=was
 generalize (σ2.new (.tup [.ref m1, .ref m2])).new (.list (sD.map .ref))=s4
 intro Bo M1a M2a G4
 refine aa uB (?_:callI _ _ _ _ _)
 refine jb (n:=32) G4.ar M1a.mr W.ok (by have:=W.nb;exact uG this) (by intro a b h;exact vq h) hd M1a.a1 M1a.a2 M1a.l M1a.th W.st uk.2 λs5 g5=> ?_
 have M1b:=M1a.keep g5.ext
 have M2b:=M2a.keep g5.ext
 refine aa uB (?_:callI _ _ _ _ _)
 refine jb (n:=32) g5.ar M2b.mr W'.ok (by have:=W'.nb;exact uG this) (by intro a b h;omega) hd M2b.a1 M2b.a2 M2b.l M2b.th W'.st Sy.2 λs6 g6=> ?_
 have M1c:=M1b.keep g6.ext
 refine aa uB (?_:callI _ _ _ _ _)
 refine jb (n:=32) g6.ar M1c.mr W.ok (by have:=W.nb;exact uG this) (by intro a b h;exact vq h) hd M1c.a1 M1c.a2 M1c.l M1c.th W.st uk.2 λs7 g7=> ?_
 have ht:=sQ W hd
 have uC:=mZ ((tellList (tell nr depth) nr.st TS.zero).1) []
 rw [dn] at uC
 have uC:nr.st.length+1≤(splitB 10 [] (bf nr depth)).length:=uC
 have Bp:=(jc 10 (bf nr depth) []).2
 have same:=λh=>zJ (D:=depth) W W' hl h
 have diff:=λl h=>zP (D:=depth) (L:=l) W W' hl h
 have g8:=Gr.new g7.ar (.list [.bytes (bf nr depth), .bytes (bf fr depth), .bytes (bf nr depth)])
 have uz:(s7.new (.list [.bytes (bf nr depth), .bytes (bf fr depth), .bytes (bf nr depth)])).get s7.n=some (.list [.bytes (bf nr depth), .bytes (bf fr depth), .bytes (bf nr depth)]):=af
 refine (?_:wSs _ _ _ _ _)
 revert ht uC Bp same diff g8 uz
 generalize bf nr depth=tn
 generalize bf fr depth=tf
 generalize s7.new (.list [.bytes tn, .bytes tf, .bytes tn])=s8
 generalize s7.n=told
 intro ht uC Bp same diff g8 uz
 have G8:=g5.then (g6.then (g7.then g8))
 have M1d:=(M1c.keep g7.ext).keep g8.ext
 have Dn:=G8.ext _ _ Bo
 have GG:=G4.then G8
 obtain ⟨i0,_,i2⟩:=xU uz
 have Sz:fF .ne (.ref L1) (.ref was) s8=some false:=iM M1d.l Dn ((if_pos rfl).trans (lP sD))
 have SD:d7 (.bytes tn) 101 [.bytes [10]] s8=some (.ref s8.n,s8.new (.list ((splitB 10 [] tn).map .bytes))):=if_pos (by unfold aw;exact Mv ht)
 have g9:=Gr.new GG.ar (.list ((splitB 10 [] tn).map .bytes))
 have Oz:=len_list (σ:=s8.new (.list ((splitB 10 [] tn).map .bytes))) (r:=s8.n) af (by rw [List.length_map];unfold aw;exact O0 ht Bp)
 have OA:=len_list (g9.ext _ _ Dn) (by rw [List.length_map];unfold aw;exact Bu Bn uk)
 have dN:decide ((((splitB 10 [] tn).map AV.bytes).length:Int)<((sD.map AV.ref).length:Int))=false:=decide_eq_false (by rw [List.length_map,List.length_map];exact NI Bn uC)
 refine a9 i0 (a9 i2 (aG (EW:(!(tn==tn))=false) (a9 M1d.a1 (a9 M1d.a2 (i6 Sz (a9 i0 (And.intro rfl (a9 SD (a9 Oz (a9 OA (aG dN (aa lX (aa lY (?_:callI _ _ _ _ _))))))))))))))
 have G9:=GG.then g9
 refine yI (n:=58) G9.ar (N1.keep G9.bh) (F1.keep G9.bh) W W' hl λres Wd hU Jq=> ?_
 refine (?_:wSs _ _ _ _ _)
 exact DH (Jq.ext _ _ (g9.ext _ _ uz)) rfl (λh=>same (h▸hU)) (λl h=>diff l (h▸hU)) (by exact uB) rfl hR
end
theorem Ul (bg:List Int) (hs:bg.length≤63):callI 60 18 [.bg] ⟨0,λ_=>none,bg⟩ λv _=>v= .bool true:=by
 refine aC (n:=59) (bs:= [(43, .bg)]) rfl rfl ?_
 intro R hr hn
 have D0:aR ⟨0,λ_=>none,bg⟩:=λi o e=>nomatch e
 have lW: ∀ρ σ',R (.ret (.bool true)) ρ σ':=λρ σ'=>hr _ ρ σ' rfl
 refine (?_:callI _ _ _ _ _)
 refine F9 (n:=58) D0 hs λdk L σ1 K1 g1 _ _=> ?_
 have g2:=Gr.new g1.ar (.list [.int 2, .int 3, .int 6, .int 6])
 refine (?_:callI _ _ _ _ _)
 refine draw (n:=58) g2.ar (K1.keep g2.ext) (many:=4) (by decide) λc σ3 hc K3 g3=> ?_
 obtain ⟨md,_,_,J0⟩:=K1.d
 obtain ⟨xl,_,_,Vk⟩:=K1.l
 have W7:=g1.ar _ _ J0
 have We:=g1.ar _ _ Vk
 have jQ:σ3.get σ1.n=some (.list [.int 2, .int 3, .int 6, .int 6]):=g3.keep _ _ (λz=>by rcases z with z|z<;>omega) af
 obtain ⟨depth,Vl,Q1⟩: ∃depth:Nat,bT (.ref σ1.n) (.int (c:Nat)) σ3=some (.int (depth:Nat))/\depth≤6:=by
  rw [cG jQ (by exact Nf hc)]
  have:c=0∨c=1∨c=2∨c=3:=by exact LP hc
  rcases this with rfl|rfl|rfl|rfl
  ·exact ⟨2,rfl,by decide⟩
  ·exact ⟨3,rfl,by decide⟩
  ·exact ⟨6,rfl,by decide⟩
  ·exact ⟨6,rfl,by decide⟩
 have Dp:dk<σ3.n:=by have:=g2.n;have:=g3.n;omega
 have w6:L<σ3.n:=by have:=g2.n;have:=g3.n;omega
 refine a9 Vl (?_:callI _ _ _ _ _)
 refine AI (n:=56) (lo:=σ3.n) g3.ar K3 Dp w6 (Nat.le_refl _) λnr nd σ4 N4 W w5 wb wi K4 g4=> ?_
 refine (?_:callI _ _ _ _ _)
 refine xX (n:=58) g4.ar N4 W λfd σ5 F5 g5=> ?_
 have N5:=N4.keep (g5.bh (lo:=σ3.n))
 refine (?_:callI _ _ _ _ _)
 refine draw (n:=58) g5.ar (K4.keep g5.ext) (many:=4) (by decide) λc2 σ6 jR K6 g6=> ?_
 have Q2:dk<σ4.n:=by have:=g4.n;exact CF Dp this
 have z9:L<σ4.n:=by have:=g4.n;exact CF w6 this
 have N6:=N5.keep (g6.above Dp w6)
 have F6:=F5.keep (g6.above Q2 z9)
 by_cases h0:0<c2
 ·refine bb (decide_eq_true (show (0:Int)<((c2:Nat):Int) by exact vW h0)) (?_:callI _ _ _ _ _)
  have SW:dh σ6 σ4.n 2 (nr.bs.map bH) nr.st.length fd:=⟨nr,F6,rfl,wb,wi,rfl⟩
  refine yH (n:=57) g6.ar K6 Q2 z9 (by have:=g5.n;have:=g6.n;omega) SW (by rw [List.length_map];exact ⟨W.nb.1,w5⟩) (λp hp=>by obtain ⟨b,hb,rfl⟩:=List.mem_map.mp hp;exact (wb b hb).z) W.ns λv σ7 z=> ?_
  obtain ⟨si,z1,z2,⟨fr,F7,q1,q2,q3,q4⟩,g7⟩:=z
  have dQ:fr.bs.length=si.length:=by rw [←q1,List.length_map]
  have W':WF fr:=⟨by exact MS z1 z2 dQ,λb hb=>(q1▸q2 b hb:dU 3 (fr.bs.map bH) b).ok,λit hi=>(q1▸q3 it hi:cj 3 (fr.bs.map bH) it).ok,by rw [q4];exact W.ns⟩
  have N7:fN σ7 σ3.n nr nd:=by
   refine N4.keep λi o hi e=>g7.keep i o (λz=> ?_) (g6.above Dp w6 _ _ hi (g5.ext _ _ e))
   have:=g4.ar _ _ e
   rcases z with (z|z)|z<;>omega
  refine (?_:wSs _ _ _ _ _)
  exact qs g7.ar N7 F7 W W' q4.symm Q1 rfl rfl rfl lW
 ·refine aG (decide_eq_false (show¬(0:Int)<((c2:Nat):Int) by exact MT h0)) ?_
  refine (?_:wSs _ _ _ _ _)
  exact qs g6.ar N6 F6 W W rfl Q1 rfl rfl rfl lW
end Mine.Internal.C
namespace Mine.Internal
open PySem
noncomputable def aM (x:Str):Option Nat:=aN.findIdx? λs=>Str.ofString s==x
noncomputable abbrev aO:=List (Str×NameKind)
noncomputable def kq (e:Expr):Bool:=match e with
 | .Name .. | .Attribute .. | .Subscript .. | .Constant .. | .Dict .. =>true
 |_=>false
noncomputable def A5 (o:Operator):Option BOp:=match o with
 | .Add=>some .add| .Sub=>some .sub| .Mult=>some .mul| .Mod=>some .mod| .FloorDiv=>some .div| .RShift=>some .shr| .BitAnd=>some .band
 |_=>none
noncomputable def AZ (o:CmpOp):Option COp:=match o with
 | .Eq=>some .eq| .NotEq=>some .ne| .Lt=>some .lt| .LtE=>some .le| .Gt=>some .gt| .GtE=>some .ge| .Is=>some .is| .IsNot=>some .isnot| .In=>some .isin| .NotIn=>some .l9
noncomputable def freeOf (sc:aO):List Nat:=sc.filterMap λp=>if p.2==NameKind.free then aM p.1 else none
noncomputable def qu (sc inner:aO):Bool:=inner.all λp=>match p.2 with
 | .local=>inner.lookup p.1==some NameKind.local
 | .free=>(sc.lookup p.1==some NameKind.cell||sc.lookup p.1==some NameKind.free)&&inner.lookup p.1==some NameKind.free&&(aM p.1).isSome
 | .globalImplicit=>true
 |_=>false
noncomputable def mP (i:Int):Bool:=decide (0≤i/\i<1000000)
noncomputable def ee (sc:aO) (x:Str):Bool:=sc.lookup x==some NameKind.local||sc.lookup x==some NameKind.cell
noncomputable def isVar (sc:aO) (x:Str):Bool:=ee sc x||sc.lookup x==some NameKind.free
noncomputable def jz (sc:aO) (x:Str):Bool:=sc.lookup x==some NameKind.globalImplicit
end Mine.Internal
namespace Mine.Internal
open PySem PySem.W PySem.Calls PyProof.Rows
structure bu where
 a:Addr
 d:Addr
noncomputable abbrev Mu:=List bu
noncomputable def bJ (μ:Mu) (x:Addr):Prop:= ∃b∈μ,x=b.a∨x=b.d
structure Gl where
 prog:Program
 w:World
 K:Frag
 h0:Heap
 sa:Addr
 bg:List Int
 fa:Nat->Addr->Prop
noncomputable abbrev nm (s:String):Str:=Str.ofString s
noncomputable def globV (K:Frag) (x:Nat):Option Value:=match aN[x]? with
 |some s=>match nsIn K mainGlobals (nm s) with
  |some (some v)=>some v
  |some none=>bootBuiltins (nm s)
  |none=>none
 |none=>none
noncomputable def VR (G:Gl) (μ:Mu):AV->Value->Prop
 | .none,v=>v= .none
 | .bool b,v=>v= .bool b
 | .int i,v=> ∃t,v= .int i t
 | .str c,v=> ∃s t,aN[c]?=some s/\v= .str (nm s) t
 | .chr c,v=> ∃t,v= .str ⟨#[c]⟩ t
 | .bytes l,v=> ∃b t,v= .bytes b t/\b.toList.map UInt8.toNat=l
 | .gJ x,v=>globV G.K x=some v
 | .ref n,v=> ∃b,μ[n]?=some b/\v= .ref b.a
 | .bg,v=>v= .ref G.sa
theorem VR.mono {G:Gl} {μ μ':Mu} (h:μ<+:μ') {V:AV} {v:Value} (r:VR G μ V v):VR G μ' V v:=by
 cases V<;>first|exact r|skip
 obtain ⟨b,hb,rfl⟩:=r
 obtain ⟨t,rfl⟩:=h
 refine ⟨b, ?_,rfl⟩
 rw [List.getElem?_append_left (List.getElem?_eq_some_iff.mp hb).1];exact hb
noncomputable abbrev FK:=Str⊕(Int⊕List UInt8)
noncomputable def FKis:FK->Value->Bool
 | .inl x,v=>Value.isStrOf x v
 | .inr (.inl n),v=>Value.isInt n v
 | .inr (.inr l),v=>PySem.W.isBytes l v
noncomputable def H7 (w:World):FK->Int
 | .inl x=>hashStr w x
 | .inr (.inl n)=>hashInt n
 | .inr (.inr l)=>hashW w.params (.bytes l)
theorem mJ {k:FK} {v:Value} (h:FKis k v=true):(∃x t,k= .inl x/\v= .str x t)∨(∃n t,k= .inr (.inl n)/\v= .int n t)∨ ∃l t,k= .inr (.inr l)/\v= .bytes l.toArray t:=by
 rcases k with x|n|l
 ·obtain ⟨t,rfl⟩:=Value.isStrOf_shape h;exact .inl ⟨_,_,rfl,rfl⟩
 ·obtain ⟨t,rfl⟩:=Value.isInt_shape h;exact .inr (.inl ⟨_,_,rfl,rfl⟩)
 ·obtain ⟨t,rfl⟩:=PySem.W.isBytes_shape h;exact .inr (.inr ⟨_,_,rfl,rfl⟩)
section
variable {prog:Program} {w:World} {A:Around} {E:Value->Shared->Prop} {s:Shared}
theorem ky (a:Array UInt8) (t:Tok) (b:Int) (u:Tok):Gives (Builtin.«bytes.__eq__» ⟨[.bytes a t, .int b u], []⟩) (.val (Value.notImplemented)):=
 .of_wp λM A E s Q h=>by
  obtain ⟨hp,g,d,tk,os⟩:=s;wp_walk
  refine wpAny_of_eq PySem.F.sub_int_bytes ?_
  exact wpAny_bind (wpAny_rule (wpAny_pure ⟨_,rfl,h⟩))
theorem kA (a:Array UInt8) (t:Tok) (b:Str) (u:Tok):Gives (Builtin.«bytes.__eq__» ⟨[.bytes a t, .str b u], []⟩) (.val (Value.notImplemented)):=
 .of_wp λM A E s Q h=>by
  obtain ⟨hp,g,d,tk,os⟩:=s;wp_walk
  refine wpAny_of_eq PySem.F.sub_str_bytes ?_
  exact wpAny_bind (wpAny_rule (wpAny_pure ⟨_,rfl,h⟩))
theorem kE (a:Int) (t:Tok) (b:Array UInt8) (u:Tok):Gives (Builtin.«int.__eq__» ⟨[.int a t, .bytes b u], []⟩) (.val (Value.notImplemented)):=
 .of_wp λM A E s Q h=>by obtain ⟨hp,g,d,tk,os⟩:=s;wp_walk;exact ⟨_,rfl,h⟩
theorem kl (a:Str) (t:Tok) (b:Array UInt8) (u:Tok):Gives (Builtin.«str.__eq__» ⟨[.str a t, .bytes b u], []⟩) (.val (Value.notImplemented)):=
 .of_wp λM A E s Q h=>by obtain ⟨hp,g,d,tk,os⟩:=s;wp_walk;exact ⟨_,rfl,h⟩
theorem cT:Slot "bytes" (cmpInfo .Eq).2.2 "bytes.__eq__":=FB.slot_bytes_eq
theorem qZ {a:Array UInt8} {t:Tok} {b:Int} {u:Tok} {Q:Value->Shared->Prop} (h:Q (.bool false) s):wpAny (model prog w) A (richCompare .Eq (.bytes a t) (.int b u)) Q E s:=
 EqNone.wpAny_richCompare_eq_decline (k:=false) (λs'=>PySem.W.typeIs_bytes s' a t) (λs'=>typeIs_int s' b u) (by decide) PySem.F.sub_int_bytes FB.slot_bytes_eq F.slot_int_eq_refl rfl
  (call_gives FB.slot_bytes_eq (PySem.W.typeIs_bytes s a t) FB.entry_bytes_eq (FB.args_bytes_eq_2 _ _) (ky a t b u)
   ⟨rfl,call_gives F.slot_int_eq_refl (typeIs_int s b u) F.entry_int_eq (F.args_int_eq_2 _ _) (kE b u a t) ⟨rfl,h⟩⟩)
theorem qo {a:Array UInt8} {t:Tok} {b:Int} {u:Tok} {Q:Value->Shared->Prop} (h:Q (.bool false) s):wpAny (model prog w) A (richCompare .Eq (.int b u) (.bytes a t)) Q E s:=
 EqNone.wpAny_richCompare_eq_decline (k:=false) (λs'=>typeIs_int s' b u) (λs'=>PySem.W.typeIs_bytes s' a t) (by decide) PySem.F.sub_bytes_int F.slot_int_eq cT rfl
  (call_gives F.slot_int_eq (typeIs_int s b u) F.entry_int_eq (F.args_int_eq_2 _ _) (kE b u a t)
   ⟨rfl,call_gives cT (PySem.W.typeIs_bytes s a t) FB.entry_bytes_eq (FB.args_bytes_eq_2 _ _) (ky a t b u) ⟨rfl,h⟩⟩)
theorem qQ {a:Array UInt8} {t:Tok} {b:Str} {u:Tok} {Q:Value->Shared->Prop} (h:Q (.bool false) s):wpAny (model prog w) A (richCompare .Eq (.bytes a t) (.str b u)) Q E s:=
 EqNone.wpAny_richCompare_eq_decline (k:=false) (λs'=>PySem.W.typeIs_bytes s' a t) (λs'=>typeIs_str s' b u) (by decide) PySem.F.sub_str_bytes FB.slot_bytes_eq F.slot_str_eq_refl rfl
  (call_gives FB.slot_bytes_eq (PySem.W.typeIs_bytes s a t) FB.entry_bytes_eq (FB.args_bytes_eq_2 _ _) (kA a t b u)
   ⟨rfl,call_gives F.slot_str_eq_refl (typeIs_str s b u) F.entry_str_eq (F.args_str_eq_2 _ _) (kl b u a t) ⟨rfl,h⟩⟩)
theorem rh {a:Array UInt8} {t:Tok} {b:Str} {u:Tok} {Q:Value->Shared->Prop} (h:Q (.bool false) s):wpAny (model prog w) A (richCompare .Eq (.str b u) (.bytes a t)) Q E s:=
 EqNone.wpAny_richCompare_eq_decline (k:=false) (λs'=>typeIs_str s' b u) (λs'=>PySem.W.typeIs_bytes s' a t) (by decide) PySem.F.sub_bytes_str F.slot_str_eq cT rfl
  (call_gives F.slot_str_eq (typeIs_str s b u) F.entry_str_eq (F.args_str_eq_2 _ _) (kl b u a t)
   ⟨rfl,call_gives cT (PySem.W.typeIs_bytes s a t) FB.entry_bytes_eq (FB.args_bytes_eq_2 _ _) (kA a t b u) ⟨rfl,h⟩⟩)
theorem da {a b:Value} {Q:Bool->Shared->Prop} (d0:(a==b)=false) (hf: ∀x t,a≠ .float x t) (h:wpAny (model prog w) A (richCompare .Eq a b) (λv s'=>v= .bool false/\Q false s') E s):
  wpAny (model prog w) A (PySem.eqBool a b) Q E s:=by
 unfold PySem.eqBool
 refine wpAny_holding ?_
 rw [d0,if_neg (by decide)]
 cases a<;>first
  |exact wpAny_bind (wpAny_mono h (λv s' hv=>by obtain ⟨rfl,hq⟩:=hv;exact wpAny_truthy_bool hq) λ_ _ e=>e)
  |exact absurd rfl (hf _ _)
end
noncomputable def MN (v:Value):Option FK:=match v with
 | .str x _=>some (.inl x)
 | .int n _=>some (.inr (.inl n))
 | .bytes b _=>some (.inr (.inr b.toList))
 |_=>none
theorem rg {k:FK} {v:Value} (h:FKis k v=true):MN v=some k:=by
 rcases mJ h with ⟨x,t,rfl,rfl⟩|⟨x,t,rfl,rfl⟩|⟨x,t,rfl,rfl⟩<;>rfl
noncomputable def bR (prog:Program) (w:World):KeyKind prog w FK where
 is:=FKis
 hash:=H7 w
 inj v a b ha hb:=Option.some.inj ((rg ha).symm.trans (rg hb))
 byValue k v h:=by rcases mJ h with ⟨x,t,rfl,rfl⟩|⟨x,t,rfl,rfl⟩|⟨x,t,rfl,rfl⟩<;>rfl
 pyHash:=λ{A E s k v Q} hv h=>by
  rcases k with x|n|l
  ·exact (strKind prog w).pyHash (k:=x) hv h
  ·exact (intKind prog w).pyHash (k:=n) hv h
  ·exact (PySem.W.bytesKind prog w).pyHash (k:=l) hv h
 eqBool:=λ{A E s a b u v Q} hu hv h=>by
  rcases a with x|n|l<;>rcases b with y|m|k
  ·exact (strKind prog w).eqBool (a:=x) (b:=y) hu hv (by simpa using h)
  ·obtain ⟨t,rfl⟩:=Value.isStrOf_shape hu;obtain ⟨t',rfl⟩:=Value.isInt_shape hv
   exact da rfl (by intro _ _;exact nofun) (EqMixed.eq_str_int ⟨rfl,by simpa using h⟩)
  ·obtain ⟨t,rfl⟩:=Value.isStrOf_shape hu;obtain ⟨t',rfl⟩:=PySem.W.isBytes_shape hv
   exact da rfl (by intro _ _;exact nofun) (rh ⟨rfl,by simpa using h⟩)
  ·obtain ⟨t,rfl⟩:=Value.isInt_shape hu;obtain ⟨t',rfl⟩:=Value.isStrOf_shape hv
   exact da rfl (by intro _ _;exact nofun) (EqMixed.eq_int_str ⟨rfl,by simpa using h⟩)
  ·exact (intKind prog w).eqBool (a:=n) (b:=m) hu hv (by simpa using h)
  ·obtain ⟨t,rfl⟩:=Value.isInt_shape hu;obtain ⟨t',rfl⟩:=PySem.W.isBytes_shape hv
   exact da rfl (by intro _ _;exact nofun) (qo ⟨rfl,by simpa using h⟩)
  ·obtain ⟨t,rfl⟩:=PySem.W.isBytes_shape hu;obtain ⟨t',rfl⟩:=Value.isStrOf_shape hv
   exact da rfl (by intro _ _;exact nofun) (qQ ⟨rfl,by simpa using h⟩)
  ·obtain ⟨t,rfl⟩:=PySem.W.isBytes_shape hu;obtain ⟨t',rfl⟩:=Value.isInt_shape hv
   exact da rfl (by intro _ _;exact nofun) (qZ ⟨rfl,by simpa using h⟩)
  ·exact (PySem.W.bytesKind prog w).eqBool (a:=l) (b:=k) hu hv (by simpa using h)
 «strs» k x t v h:=by
  rcases k with y|n|l
  ·exact (strKind prog w).strs y x t v h
  ·cases h
  ·cases h
noncomputable abbrev dA (G:Gl):HeapKind G.prog G.w (List FK):=tupleKind (bR G.prog G.w)
noncomputable def bK (v:AV):Option FK:=match v with
 | .int i=>some (.inr (.inl i))
 | .str c=>(aN[c]?).map λs=> .inl (nm s)
 | .bytes l=>some (.inr (.inr (l.map UInt8.ofNat)))
 |_=>none
noncomputable def br:List AV->Option (List FK)
 | []=>some []
 |x::r=>match bK x with
  |some k=>(br r).map (k:: ·)
  |none=>none
theorem gv {x:AV} {xs:List AV} {ks:List FK} (e:br (x::xs)=some ks): ∃k Dq,bK x=some k/\br xs=some Dq/\k::Dq=ks:=by
 have e:(match (generalizing:=false) bK x with|some k=>(br xs).map (k:: ·)|none=>none)=some ks:=e
 cases h:bK x with
 |none=>rw [h] at e;cases e
 |some k=>
  rw [h] at e
  obtain ⟨Dq,h1,h2⟩:=Option.map_eq_some_iff.mp e
  exact ⟨k,Dq,rfl,h1,h2⟩
theorem sI {x:AV} {xs:List AV} {k:FK} {ks:List FK} (h:bK x=some k) (h2:br xs=some ks):br (x::xs)=some (k::ks):=by
 show (match (generalizing:=false) bK x with|some k=>(br xs).map (k:: ·)|none=>none)=_
 rw [h,h2];rfl
noncomputable def jC (G:Gl) (μ:Mu) (p:AV×AV) (q:FK×Value):Prop:=bK p.1=some q.1/\VR G μ p.2 q.2
noncomputable def dZ (G:Gl) (μ:Mu) (σ:a0) (p:AV×AV) (x:List FK×Addr×Value):Prop:=
 ∃n b xs,p.1= .ref n/\μ[n]?=some b/\σ.get n=some (.tup xs)/\br xs=some x.1/\x.2.1=b.a/\VR G μ p.2 x.2.2
noncomputable def fJ (G:Gl) (μ:Mu):Option AV->Option Value->Prop
 |none,r=>r=none
 |some V,r=> ∃v,r=some v/\VR G μ V v
theorem fJ.mono {G:Gl} {μ μ':Mu} (h:μ<+:μ') {V:Option AV} {r:Option Value} (e:fJ G μ V r):fJ G μ' V r:=by
 cases V with
 |none=>exact e
 |some V=>exact let ⟨v,e,q⟩:=e;⟨v,e,q.mono h⟩
noncomputable def jJ (x:Nat):Str:=nm ((aN[x]?).getD "")
theorem mT {x:Nat} {s:String} (h:aN[x]?=some s):jJ x=nm s:=by unfold jJ;rw [h];rfl
inductive Rt (G:Gl) (μ:Mu) (σ:a0) (es:List (AV×AV)) (a:Addr) (h:Heap):Prop
 |mk (ob:Obj) (ens:Array DictEntry) (ep:Nat) (xs:List (List FK×Addr×Value)) (e1:h.get? a=some ob) (e2:ob.ExactDict) (e3:ob.data= .dict ens ep) (e4:ens.toList=xs.map (entryOfKey (dA G))) (e5:ae (dZ G μ σ) es xs) (e6:(xs.map (·.1)).Nodup)
inductive Ny (G:Gl) (μ:Mu) (es:List (AV×AV)) (a:Addr) (h:Heap):Prop
 |mk (bq:List (FK×Value)) (D:h.DictOf (bR G.prog G.w) a bq) (A:ae (jC G μ) es bq)
inductive Kf (G:Gl) (μ:Mu) (C:Nat) (fs:List (Nat×AV)) (b:bu) (h:Heap):Prop
 |mk (ca:Addr) (m:Str->Option Value) (e1:globV G.K C=some (.ref ca)) (e2:h.get? b.a=some (instObj ca b.d)) (e3:h.Ns1 b.d m) (e4:PySem.Within m (fs.map λe=>jJ e.1)) (e5: ∀x s,aN[x]?=some s->fJ G μ (flook x fs) (m (nm s)))
noncomputable def dH (G:Gl) (μ:Mu) (σ:a0) (o:AO) (b:bu) (h:Heap):Prop:=match o with
 | .list xs=> ∃vs,h.PlainList b.a vs/\ae (VR G μ) xs vs.toList
 | .tup xs=> ∃vs,IsTup h b.a vs/\ae (VR G μ) xs vs.toList
 | .dict es=>Ny G μ es b.a h∨Rt G μ σ es b.a h
 | .inst C fs=>Kf G μ C fs b h
 | .fL l=> ∃bs,h.get? b.a=some {cls:= .type "bytearray",data:= .bytearray bs 0}/\bs.toList.map UInt8.toNat=l
noncomputable def TupIn (σ σ':a0):Prop:= ∀n xs,σ.get n=some (.tup xs)->σ'.get n=some (.tup xs)
theorem TupIn.refl (σ:a0):TupIn σ σ:=λ_ _ h=>h
theorem iR {μ μ':Mu} (h:μ<+:μ') {n:Nat} {b:bu} (e:μ[n]?=some b):μ'[n]?=some b:=by
 obtain ⟨t,rfl⟩:=h
 rw [List.getElem?_append_left (List.getElem?_eq_some_iff.mp e).1];exact e
theorem DictOf.at' {G:Gl} {h h':Heap} {a:Addr} {bq:List (FK×Value)} (k: ∀x,h.get? a=some x->h'.get? a=some x) (D:h.DictOf (bR G.prog G.w) a bq):h'.DictOf (bR G.prog G.w) a bq:=
 let ⟨ob,ens,ep,e,r⟩:=D;⟨ob,ens,ep,k _ e,r⟩
theorem dZ.move {G:Gl} {μ μ':Mu} {σ σ':a0} (hm:μ<+:μ') (ht:TupIn σ σ') {p:AV×AV} {x:List FK×Addr×Value} (r:dZ G μ σ p x):dZ G μ' σ' p x:=
 let ⟨n,c,ys,e1,e2,e3,e4,e5,e6⟩:=r;⟨n,c,ys,e1,iR hm e2,ht _ _ e3,e4,e5,e6.mono hm⟩
theorem dH.move {G:Gl} {μ μ':Mu} {σ σ':a0} {o:AO} {b:bu} {h h':Heap} (hm:μ<+:μ') (ht:TupIn σ σ')
  (ka: ∀x,h.get? b.a=some x->h'.get? b.a=some x) (kd: ∀x,h.get? b.d=some x->h'.get? b.d=some x) (r:dH G μ σ o b h):dH G μ' σ' o b h':=by
 cases o with
 |list xs=>exact let ⟨vs,⟨n,e⟩,hv⟩:=r;⟨vs,⟨n,ka _ e⟩,hv.imp λ_ _ q=>q.mono hm⟩
 |tup xs=>exact let ⟨vs,⟨ob,e,r⟩,hv⟩:=r;⟨vs,⟨ob,ka _ e,r⟩,hv.imp λ_ _ q=>q.mono hm⟩
 |dict es=>exact Or.imp (fun|⟨bq,D,A⟩=>⟨bq,DictOf.at' ka D,A.imp λ_ _ q=>⟨q.1,q.2.mono hm⟩⟩) (fun|⟨ob,ens,ep,xs,e,hx,hd,he,ha,hn⟩=>⟨ob,ens,ep,xs,ka _ e,hx,hd,he,ha.imp λ_ _ q=>q.move hm ht,hn⟩) r
 |inst C fs=>exact let ⟨ca,m,e1,e2,e3,e6,e5⟩:=r;⟨ca,m,e1,ka _ e2,e3.at kd,e6,λx s q=>(e5 x s q).mono hm⟩
 |fL l=>exact let ⟨bs,e,r⟩:=r;⟨bs,ka _ e,r⟩
structure ai (G:Gl) (μ:Mu) (σ:a0) (h:Heap):Prop where
 len:μ.length=σ.n
 apart: ∀{i j:Nat} {b c:bu},μ[i]?=some b->μ[j]?=some c->i≠j->b.a≠c.a/\b.a≠c.d/\b.d≠c.a/\b.d≠c.d
 live: ∀{x:Addr},bJ μ x-> ∃o,h.get? x=some o
 ge: ∀{x:Addr},bJ μ x->G.h0.get? x=none
 ar: ∀{i:Nat} {o:AO},σ.get i=some o->i<σ.n
 obj: ∀{i:Nat} {o:AO} {b:bu},σ.get i=some o->μ[i]?=some b->dH G μ σ o b h
 base: ∀x o,G.h0.get? x=some o->h.get? x=some o
 bg:σ.bg=G.bg
theorem cc {μ:Mu} {i:Nat} {b:bu} (e:μ[i]?=some b):bJ μ b.a/\bJ μ b.d:=⟨⟨b,List.mem_of_getElem? e, .inl rfl⟩,⟨b,List.mem_of_getElem? e, .inr rfl⟩⟩
theorem ai.zd {G:Gl} {μ:Mu} {σ:a0} {h:Heap} (H:ai G μ σ h) {x:Addr} {o:Obj} (e:G.h0.get? x=some o): ¬bJ μ x:=λi=>by
 rw [H.ge i] at e;cases e
theorem ai.none_of {G:Gl} {μ:Mu} {σ:a0} {h:Heap} (H:ai G μ σ h) {x:Addr} (e:h.get? x=none):G.h0.get? x=none:=by
 cases q:G.h0.get? x with
 |none=>rfl
 |some o=>rw [H.base _ _ q] at e;cases e
theorem ai.frame {G:Gl} {μ:Mu} {σ:a0} {h h':Heap} (H:ai G μ σ h) (k: ∀x o,bJ μ x->h.get? x=some o->h'.get? x=some o)
  (kb: ∀x o,G.h0.get? x=some o->h'.get? x=some o):ai G μ σ h':=
 ⟨H.len,H.apart,λi=>let ⟨o,e⟩:=H.live i;⟨o,k _ _ i e⟩,H.ge,H.ar,
  λ{i o b} e hb=>(H.obj e hb).move (List.prefix_refl _) (.refl _) (λx q=>k _ _ (cc hb).1 q) (λx q=>k _ _ (cc hb).2 q),kb,H.bg⟩
theorem lB {μ:Mu} {b c:bu} (h:c∈μ++ [b]):c∈μ∨c=b:=(List.mem_append.mp h).imp_right List.mem_singleton.mp
theorem dT {μ:Mu} {b:bu} {x:Addr} (i:bJ (μ++ [b]) x):bJ μ x∨x=b.a∨x=b.d:=by
 obtain ⟨c,hc,e⟩:=i
 rcases lB hc with hc|rfl
 ·exact .inl ⟨c,hc,e⟩
 ·exact .inr e
theorem a0.iw {σ:a0} {o:AO} {i:Nat} (h:i≠σ.n):(σ.new o).get i=σ.get i:=if_neg h
theorem a0.ta {σ:a0} {o:AO}:(σ.new o).get σ.n=some o:=if_pos rfl
theorem a0.fj {σ:a0} {o:AO} {d i:Nat} (h:i≠d):(σ.set d o).get i=σ.get i:=if_neg h
theorem a0.sO {σ:a0} {o:AO} {d:Nat}:(σ.set d o).get d=some o:=if_pos rfl
theorem hH {μ:Mu} {b c:bu} {i:Nat} (e:(μ++ [b])[i]?=some c):μ[i]?=some c∨(i=μ.length/\b=c):=by
 rcases Nat.lt_trichotomy i μ.length with q|q|q
 ·exact .inl ((List.getElem?_append_left q).symm.trans e)
 ·exact .inr ⟨q,Option.some.inj ((List.getElem?_concat_length ..).symm.trans (q▸e))⟩
 ·rw [List.getElem?_eq_none (by rw [List.length_append];exact q)] at e;cases e
theorem ai.adopt {G:Gl} {μ:Mu} {σ:a0} {h:Heap} (H:ai G μ σ h) {b:bu} {o:AO} (na: ¬bJ μ b.a) (nd: ¬bJ μ b.d) (ga:G.h0.get? b.a=none) (gd:G.h0.get? b.d=none) (la: ∃o,h.get? b.a=some o) (ld: ∃o,h.get? b.d=some o)
  (r:dH G (μ++ [b]) (σ.new o) o b h):ai G (μ++ [b]) (σ.new o) h:=by
 have pA: ∀x,bJ μ x->x≠b.a/\x≠b.d:=λx hx=>⟨λq=>na (q▸hx),λq=>nd (q▸hx)⟩
 refine ⟨(List.length_append ..).trans (congrArg Nat.succ H.len),λ{i j c d} ei ej Q3=> ?_,λ{x} hx=> ?_,λ{x} hx=> ?_,λ{i o'} e=> ?_,λ{i o' c} e hc=> ?_,H.base,H.bg⟩
 ·rcases hH ei with e1|⟨e0,e1⟩
  ·rcases hH ej with e2|⟨e3,e2⟩
   ·exact H.apart e1 e2 Q3
   ·exact e2▸⟨(pA _ (cc e1).1).1,(pA _ (cc e1).1).2,(pA _ (cc e1).2).1,(pA _ (cc e1).2).2⟩
  ·rcases hH ej with e2|⟨e3,e2⟩
   ·exact e1▸⟨((pA _ (cc e2).1).1).symm,((pA _ (cc e2).2).1).symm,((pA _ (cc e2).1).2).symm,((pA _ (cc e2).2).2).symm⟩
   ·exact absurd (e0.trans e3.symm) Q3
 ·exact (dT hx).elim H.live λz=>z.elim (λe=>e▸la) λe=>e▸ld
 ·exact (dT hx).elim H.ge λz=>z.elim (λe=>e▸ga) λe=>e▸gd
 ·by_cases q:i=σ.n
  ·exact q▸Nat.lt_succ_self _
  ·exact Nat.lt_succ_of_lt (H.ar ((a0.iw q).symm.trans e))
 ·rcases hH hc with e1|⟨e3,e4⟩
  ·have q:i≠σ.n:=λq=>absurd (List.getElem?_eq_some_iff.mp e1).1 (by rw [q,H.len];exact Nat.lt_irrefl _)
   exact (H.obj ((a0.iw q).symm.trans e) e1).move ⟨_,rfl⟩ (λn xs e=>(a0.iw (Nat.ne_of_lt (H.ar e))).trans e) (λx q=>q) (λx q=>q)
  ·rw [e3,H.len,a0.ta] at e
   exact e4▸Option.some.inj e▸r
theorem ai.new {G:Gl} {μ:Mu} {σ:a0} {h h':Heap} (H:ai G μ σ h) {b:bu} {o:AO} (k: ∀x o,bJ μ x->h.get? x=some o->h'.get? x=some o)
  (kb: ∀x o,G.h0.get? x=some o->h'.get? x=some o) (na:h.get? b.a=none) (nd:h.get? b.d=none) (la: ∃o,h'.get? b.a=some o) (ld: ∃o,h'.get? b.d=some o)
  (r:dH G (μ++ [b]) (σ.new o) o b h'):ai G (μ++ [b]) (σ.new o) h':=
 have out: ∀{x},h.get? x=none-> ¬bJ μ x:=λe i=>let ⟨_,z⟩:=H.live i;nomatch e.symm.trans z
 (H.frame k kb).adopt (out na) (out nd) (H.none_of na) (H.none_of nd) la ld r
noncomputable def AO.isTup:AO->Bool
 | .tup _=>true
 |_=>false
theorem ai.set {G:Gl} {μ:Mu} {σ:a0} {h h':Heap} (H:ai G μ σ h) {d:Nat} {b:bu} {o o':AO} (ho:σ.get d=some o) (hb:μ[d]?=some b) (sE:o.isTup=false)
  (k: ∀x ob,x≠b.a->x≠b.d->h.get? x=some ob->h'.get? x=some ob) (la: ∃o,h'.get? b.a=some o) (ld: ∃o,h'.get? b.d=some o)
  (r:dH G μ (σ.set d o') o' b h'):ai G μ (σ.set d o') h':=by
 have ti:TupIn σ (σ.set d o'):=λn xs e=>(a0.fj λq=>by rw [q,ho] at e;cases e;cases sE).trans e
 refine ⟨H.len,H.apart,λ{x} hx=> ?_,H.ge,λ{i yK} e=> ?_,λ{i yK c} e hc=> ?_,λx ob e=> ?_,H.bg⟩
 ·by_cases q1:x=b.a
  ·exact q1▸la
  ·by_cases q2:x=b.d
   ·exact q2▸ld
   ·obtain ⟨o,e⟩:=H.live hx
    exact ⟨o,k _ _ q1 q2 e⟩
 ·by_cases q:i=d
  ·rw [q];exact H.ar ho
  ·exact H.ar ((a0.fj q).symm.trans e)
 ·by_cases q:i=d
  ·rw [q,a0.sO] at e
   exact Option.some.inj (hb.symm.trans (q▸hc))▸Option.some.inj e▸r
  ·have z:=H.apart hc hb q
   exact (H.obj ((a0.fj q).symm.trans e) hc).move (List.prefix_refl _) ti (λx y=>k _ _ z.1 z.2.1 y) (λx y=>k _ _ z.2.2.1 z.2.2.2 y)
 ·have z:=H.zd e
  exact k _ _ (λq=>z (q▸(cc hb).1)) (λq=>z (q▸(cc hb).2)) (H.base _ _ e)
structure Step (own:Addr->Prop) (μ:Mu) (h:Heap) (μ':Mu) (h':Heap):Prop where
 pre:μ<+:μ'
 new: ∀x,bJ μ' x->bJ μ x∨h.get? x=none
 keep: ∀x o,¬own x-> ¬bJ μ x->h.get? x=some o->h'.get? x=some o
 live: ∀x o,h.get? x=some o-> ∃o',h'.get? x=some o'
noncomputable abbrev aS:Addr->Prop:=λ_=>False
theorem Step.refl (own:Addr->Prop) (μ:Mu) (h:Heap):Step own μ h μ h:=⟨List.prefix_refl _,λ_ hb=> .inl hb,λ_ _ _ _ e=>e,λ_ o e=>⟨o,e⟩⟩
theorem Step.fS {own:Addr->Prop} {μ μ':Mu} {h h':Heap} (S:Step own μ h μ' h') {x:Addr} {o:Obj} (hx:h.get? x=some o) (n: ¬bJ μ x): ¬bJ μ' x:=λi=>by
 rcases S.new x i with q|q
 ·exact n q
 ·rw [q] at hx;cases hx
theorem Step.none_of {own:Addr->Prop} {μ μ':Mu} {h h':Heap} (S:Step own μ h μ' h') {x:Addr} (e:h'.get? x=none):h.get? x=none:=by
 cases q:h.get? x with
 |none=>rfl
 |some o=>obtain ⟨o',z⟩:=S.live _ _ q;rw [z] at e;cases e
theorem Step.trans {own gO w7:Addr->Prop} {μ μ' μ'':Mu} {h h' bW:Heap} (S:Step own μ h μ' h') (T:Step gO μ' h' μ'' bW) (f: ∀x,own x->w7 x) (g: ∀x o,h.get? x=some o->gO x->w7 x):Step w7 μ h μ'' bW:=
 ⟨S.pre.trans T.pre,λx i=>(T.new x i).elim (S.new x) λq=> .inr (S.none_of q),
  λx o hn hi e=>T.keep x o (λq=>hn (g x o e q)) (S.fS e hi) (S.keep x o (λq=>hn (f x q)) hi e),λx o e=>let ⟨_,e'⟩:=S.live x o e;T.live _ _ e'⟩
theorem Step.andThen {μ μ' μ'':Mu} {h h' bW:Heap} (S:Step aS μ h μ' h') (T:Step aS μ' h' μ'' bW):Step aS μ h μ'' bW:=S.trans T (λ_ q=>q) (λ_ _ _ q=>q)
theorem Step.grown (own:Addr->Prop) {μ:Mu} {h h':Heap} (k: ∀x o,h.get? x=some o->h'.get? x=some o):Step own μ h μ h':=⟨List.prefix_refl _,λ_ hb=> .inl hb,λx o _ _ e=>k x o e,λx o e=>⟨o,k x o e⟩⟩
theorem ai.grown {G:Gl} {μ:Mu} {σ:a0} {h h':Heap} (H:ai G μ σ h) (k: ∀x o,h.get? x=some o->h'.get? x=some o):ai G μ σ h':=H.frame (λx o _ e=>k x o e) λx o e=>k _ _ (H.base x o e)
theorem gE {G:Gl} {μ:Mu} {σ:a0} {h h':Heap} (H:ai G μ σ h) {o:AO} {a d:Addr} (up: ∀x ob,h.get? x=some ob->h'.get? x=some ob) (na:h.get? a=none) (nd:h.get? d=none) (la: ∃o,h'.get? a=some o) (ld: ∃o,h'.get? d=some o)
  (r:dH G (μ++ [⟨a,d⟩]) (σ.new o) o ⟨a,d⟩ h'):Step aS μ h (μ++ [⟨a,d⟩]) h'/\ai G (μ++ [⟨a,d⟩]) (σ.new o) h':=
 ⟨⟨⟨_,rfl⟩,λx i=>(dT i).imp id λe=>(by rcases e with rfl|rfl<;>assumption),λx ob _ _ e=>up x ob e,λx ob e=>⟨ob,up x ob e⟩⟩,
  H.new (λx ob _ e=>up x ob e) (λx ob e=>up _ _ (H.base x ob e)) na nd la ld r⟩
theorem Fj {G:Gl} {μ:Mu} {σ:a0} {h:Heap} (H:ai G μ σ h) {ob:Obj} {o:AO} (hf:ob.isFreed=false)
  (r:dH G (μ++ [⟨h.objs.size,h.objs.size⟩]) (σ.new o) o ⟨h.objs.size,h.objs.size⟩ (h.push ob)):
  Step aS μ h (μ++ [⟨h.objs.size,h.objs.size⟩]) (h.push ob)/\ai G (μ++ [⟨h.objs.size,h.objs.size⟩]) (σ.new o) (h.push ob):=
 gE H (λx o e=>Heap.get?_push_of_some _ e) (Heap.get?_none_of_le (Nat.le_refl _)) (Heap.get?_none_of_le (Nat.le_refl _)) ⟨_,Heap.get?_push_size _ hf⟩ ⟨_,Heap.get?_push_size _ hf⟩ r
theorem iK {G:Gl} {μ:Mu} {σ:a0} {h:Heap} (H:ai G μ σ h) (b:bu):VR G (μ++ [b]) (.ref σ.n) (.ref b.a):=⟨b,by rw [←H.len];exact List.getElem?_concat_length ..,rfl⟩
theorem Iq {G:Gl} {μ:Mu} {σ:a0} {h h':Heap} (H:ai G μ σ h) {d:Nat} {b:bu} {o o':AO} (ho:σ.get d=some o) (hb:μ[d]?=some b) (sE:o.isTup=false)
  (k: ∀x ob,x≠b.a->x≠b.d->h.get? x=some ob->h'.get? x=some ob) (la: ∃o,h'.get? b.a=some o) (ld: ∃o,h'.get? b.d=some o)
  (r:dH G μ (σ.set d o') o' b h'):Step aS μ h μ h'/\ai G μ (σ.set d o') h':=
 ⟨⟨List.prefix_refl _,λ_ hb=> .inl hb,λx o _ hi e=>k x o (λq=>hi (q▸(cc hb).1)) (λq=>hi (q▸(cc hb).2)) e,λx o e=>by
  by_cases q1:x=b.a
  ·subst q1;exact la
  ·by_cases q2:x=b.d
   ·subst q2;exact ld
   ·exact ⟨o,k _ _ q1 q2 e⟩⟩,H.set ho hb sE k la ld r⟩
theorem setB {G:Gl} {μ:Mu} {σ:a0} {h h':Heap} (H:ai G μ σ h) {d:Nat} {b:bu} {o o':AO} (ho:σ.get d=some o) (hb:μ[d]?=some b) (sE:o.isTup=false) (hs:Heap.SameBut b.a h h') (la: ∃o,h'.get? b.a=some o)
  (r:dH G μ (σ.set d o') o' b h'):Step aS μ h μ h'/\ai G μ (σ.set d o') h':=
 Iq H ho hb sE (λx ob h1 _ e=>(hs.2 x h1).trans e) la (by
  by_cases q:b.d=b.a
  ·rw [q];exact la
  ·obtain ⟨ob,e⟩:=H.live (cc hb).2
   exact ⟨ob,(hs.2 _ q).trans e⟩) r
noncomputable def KQ (G:Gl) (K:AV->a0->Prop) (μ:Mu) (h:Heap) (g:Array GenState) (d:Drawn) (os:OsState) (Q:Value->Shared->Prop):Prop:=
 ∀v V μ' h' aH σ',K V σ'->VR G μ' V v->Step aS μ h μ' h'->ai G μ' σ' h'->Q v ⟨h',g,d,aH,os⟩
noncomputable def KU (G:Gl) (K:a0->Prop) (μ:Mu) (h:Heap) (g:Array GenState) (d:Drawn) (os:OsState) (Q:Unit->Shared->Prop):Prop:=
 ∀μ' h' aH σ',K σ'->Step aS μ h μ' h'->ai G μ' σ' h'->Q () ⟨h',g,d,aH,os⟩
noncomputable def bU (G:Gl) (A:Around) (t:Sem Value) (μ:Mu) (h:Heap) (K:AV->a0->Prop):Prop:=
 ∀(g:Array GenState) (d:Drawn) (tk:Nat) (os:OsState) (Q:Value->Shared->Prop) (E:Value->Shared->Prop),KQ G K μ h g d os Q->wpAny (model G.prog G.w) A t Q E ⟨h,g,d,tk,os⟩
noncomputable def xj (G:Gl) (A:Around) (t:Sem Unit) (μ:Mu) (h:Heap) (K:a0->Prop):Prop:=
 ∀(g:Array GenState) (d:Drawn) (tk:Nat) (os:OsState) (Q:Unit->Shared->Prop) (E:Value->Shared->Prop),KU G K μ h g d os Q->wpAny (model G.prog G.w) A t Q E ⟨h,g,d,tk,os⟩
theorem KQ.same {G:Gl} {K:AV->a0->Prop} {μ:Mu} {σ:a0} {h:Heap} {g:Array GenState} {d:Drawn} {os:OsState} {Q:Value->Shared->Prop} (q:KQ G K μ h g d os Q) (H:ai G μ σ h) {V:AV} {v:Value} {tk:Nat} (k:K V σ) (r:VR G μ V v):Q v ⟨h,g,d,tk,os⟩:=q v V μ h tk σ k r (.refl ..) H
theorem KQ.alloc {G:Gl} {K:AV->a0->Prop} {μ:Mu} {σ:a0} {h:Heap} {g:Array GenState} {d:Drawn} {os:OsState} {Q:Value->Shared->Prop} (q:KQ G K μ h g d os Q) (H:ai G μ σ h) {ob:Obj} {o:AO} {tk:Nat} (hf:ob.isFreed=false) (k:K (.ref σ.n) (σ.new o))
  (r:dH G (μ++ [⟨h.objs.size,h.objs.size⟩]) (σ.new o) o ⟨h.objs.size,h.objs.size⟩ (h.push ob)):Q (.ref h.objs.size) ⟨h.push ob,g,d,tk,os⟩:=
 have z:=Fj H hf r
 q _ _ _ _ _ _ k (iK H ⟨h.objs.size,h.objs.size⟩) z.1 z.2
theorem KQ.gE {G:Gl} {K:AV->a0->Prop} {μ:Mu} {σ:a0} {h h':Heap} {g:Array GenState} {d:Drawn} {os:OsState} {Q:Value->Shared->Prop} (q:KQ G K μ h g d os Q) (H:ai G μ σ h) {o:AO} {a:Addr} {tk:Nat} (k:K (.ref σ.n) (σ.new o))
  (up: ∀x ob,h.get? x=some ob->h'.get? x=some ob) (na:h.get? a=none) (la: ∃o,h'.get? a=some o) (r:dH G (μ++ [⟨a,a⟩]) (σ.new o) o ⟨a,a⟩ h'):Q (.ref a) ⟨h',g,d,tk,os⟩:=
 have z:=Mine.Internal.gE H up na na la la r
 q _ _ _ _ _ _ k (iK H ⟨a,a⟩) z.1 z.2
structure cy (A:Around) (n:Nat):Prop where
 handled:A.handled=none
 depth:A.depth+4*n<recursionLimit
 units:A.units+40*n+200<cLine
section
variable {G:Gl} {A:Around} {μ:Mu} {σ:a0} {h:Heap}
theorem bj {n:Nat} (h:n≤aw):n≤sizeLine:=by rw [sizeLine_eq];unfold aw at h;exact HR h
theorem ku (a b:Array UInt8):(a++b).toList.map UInt8.toNat=a.toList.map UInt8.toNat++b.toList.map UInt8.toNat:=by simp
theorem zv {prog:Program} {w:World} {A:Around} {E:Value->Shared->Prop} {s:Shared} {l b:Addr} {vs ws:Array Value} {Q:Value->Shared->Prop} (hl:s.heap.PlainList l vs) (hb:s.heap.PlainList b ws)
  (h:Q (.ref s.heap.objs.size) {s with heap:=s.heap.push {cls:= .type "list",data:= .seq (vs++ws)}}) (D9:vs.size+ws.size≤sizeLine):
  wpAny (model prog w) A (binaryOp .Add (.ref l) (.ref b)) Q E s:=by
 obtain ⟨n,ho⟩:=hl
 obtain ⟨m,hp⟩:=hb
 exact concat_meets ⟨_,ho,rfl⟩ ⟨_,hp,rfl⟩ noFill_list_add seq_list_add PySem.F.slot_list_add PySem.F.entry_list_add (PySem.F.args_list_add_2 _ _) (list_addW l b vs ws n m none none #[] #[] D9) ⟨ho,hp,h⟩
theorem cm (i:Int) (t:Tok):VR G μ (.int i) (.int i t):=⟨t,rfl⟩
theorem zl {l:List Nat} {b:Array UInt8} (t:Tok) (e:b.toList.map UInt8.toNat=l):VR G μ (.bytes l) (.bytes b t):=⟨b,t,rfl,e⟩
theorem qp {x y:Int} (hx:small x=true):IntMulOk x y:=by
 refine IntMulOk.of_left ?_
 have hx:=of_decide_eq_true hx
 unfold Builtin.Int.intBits
 split
 ·exact Us
 ·rename_i h0
  have h1:x.natAbs≠0:=by intro z;apply h0;simp;exact TJ z
  have:=(Nat.log2_lt h1 (k:=63)).mpr (by exact Pd hx)
  exact Uj this
section
variable {α:Type} {P:α->Prop} {M:Value->Prop} {a:AV} {v:Value}
theorem bG {c:Prop} [Decidable c] {x:Option α} (e:oB (if c then x else none) P):c/\oB x P:=by
 by_cases h:c
 ·exact ⟨h,(if_pos h:(if c then x else none)=x)▸e⟩
 ·rw [if_neg h] at e;exact e.elim
@[elab_as_elim] theorem eI {f:Int->Option α} (r:VR G μ a v) (e:oB (bV a f) P) (q: ∀i t,oB (f i) P->M (.int i t)):M v:=by
 cases a with
 |int i=>exact let ⟨t,z⟩:=r;z▸q i t e
 |_=>exact e.elim
@[elab_as_elim] theorem eS {f:Nat->Option α} (r:VR G μ a v) (e:oB (u6 a f) P) (q: ∀c s t,aN[c]?=some s->oB (f c) P->M (.str (nm s) t)):M v:=by
 cases a with
 |str c=>exact let ⟨s,t,z,y⟩:=r;y▸q c s t z e
 |_=>exact e.elim
@[elab_as_elim] theorem eY {f:List Nat->Option α} (r:VR G μ a v) (e:oB (oy a f) P) (q: ∀b t,oB (f (b.toList.map UInt8.toNat)) P->M (.bytes b t)):M v:=by
 cases a with
 |bytes l=>exact let ⟨b,t,z,y⟩:=r;z▸q b t (y.symm▸e)
 |_=>exact e.elim
@[elab_as_elim] theorem eR {f:Nat->Option α} (r:VR G μ a v) (e:oB (dY a f) P) (q: ∀n b,μ[n]?=some b->oB (f n) P->M (.ref b.a)):M v:=by
 cases a with
 |ref n=>exact let ⟨b,z,y⟩:=r;y▸q n b z e
 |_=>exact e.elim
theorem eO {n:Nat} {f:AO->Option α} (e:oB (bA σ n f) P): ∃o,σ.get n=some o/\oB (f o) P:=by
 unfold bA at e
 cases h:σ.get n with
 |none=>rw [h] at e;exact e.elim
 |some o=>rw [h] at e;exact ⟨o,rfl,e⟩
theorem eL (H:ai G μ σ h) {n:Nat} {b:bu} (hb:μ[n]?=some b) {f:List AV->Option α} (e:oB (bA σ n λo=>fP o f) P): ∃xs vs,σ.get n=some (.list xs)/\h.PlainList b.a vs/\ae (VR G μ) xs vs.toList/\xs.length=vs.size/\oB (f xs) P:=by
 obtain ⟨o,ho,e⟩:=eO e
 cases o with
 |list xs=>exact let ⟨vs,l,r⟩:=H.obj ho hb;⟨xs,vs,ho,l,r,r.length,e⟩
 |_=>exact e.elim
theorem eD {n:Nat} {f:List (AV×AV)->Option α} (e:oB (bA σ n λo=>Pg o f) P): ∃es,σ.get n=some (.dict es)/\oB (f es) P:=by
 obtain ⟨o,ho,e⟩:=eO e
 cases o with
 |dict es=>exact ⟨es,ho,e⟩
 |_=>exact e.elim
theorem eN {n:Nat} {f:Nat->List (Nat×AV)->Option α} (e:oB (bA σ n λo=>wR o f) P): ∃C fs,σ.get n=some (.inst C fs)/\oB (f C fs) P:=by
 obtain ⟨o,ho,e⟩:=eO e
 cases o with
 |inst C fs=>exact ⟨C,fs,ho,e⟩
 |_=>exact e.elim
theorem m6 {β:Type} {o:Option β} {g:β->α} (e:oB (o.map g) P): ∃x,o=some x/\P (g x):=by
 cases o with
 |none=>exact e.elim
 |some x=>exact ⟨x,rfl,e⟩
theorem eP {o:Option α} (e:oB o P): ∃x,o=some x/\P x:=by
 cases o with
 |none=>exact e.elim
 |some x=>exact ⟨x,rfl,e⟩
end
section
variable {K:AV->a0->Prop} {a b:AV} {va vb:Value}
theorem EG (H:ai G μ σ h) (ra:VR G μ a va) (rb:VR G μ b vb) (e:wV (bin .add a b σ) K):bU G A (binaryOp .Add va vb) μ h K:=by
 intro g d tk os Q E q
 cases a with
 |int x=>
  obtain ⟨t,rfl⟩:=ra
  exact eI rb e λy u e=>PyProof.Rows.add_int (q.same H e (cm _ _))
 |bytes x=>
  obtain ⟨b,t,rfl,rfl⟩:=ra
  refine eY rb e λc u e=> ?_
  obtain ⟨hc,e⟩:=bG e
  rw [List.length_map,List.length_map] at hc
  exact PySem.W.KBy.add_bytes (by have:b.toList.length+c.toList.length≤aw:=hc;unfold aw at this;rw [Array.length_toList,Array.length_toList] at this;exact Pe this) λt' k=>q.same H e (zl _ (ku _ _))
 |ref r=>
  obtain ⟨bx,hx,rfl⟩:=ra
  refine eR rb e λn b2 hy e=> ?_
  obtain ⟨xs,vs,_,l1,r1,n1,e⟩:=eL H hx e
  obtain ⟨ys,ws,_,l2,r2,n2,e⟩:=eL H hy e
  obtain ⟨hs,e⟩:=bG e
  refine zv (s:=⟨h,g,d,tk,os⟩) l1 l2 (q.alloc H rfl e ⟨_,⟨_,Heap.get?_push_size _ rfl⟩, ?_⟩) (by rw [←n1,←n2];exact bj hs)
  rw [Array.toList_append]
  exact (r2.imp λ_ _ z=>z.mono ⟨_,rfl⟩).append (r1.imp λ_ _ z=>z.mono ⟨_,rfl⟩)
 |_=>exact e.elim
theorem yg {y:Int} (h:small y=true):y.natAbs.log2<63:=by
 have:=of_decide_eq_true h
 by_cases h0:y.natAbs=0
 ·rw [h0];decide+kernel
 ·exact (Nat.log2_lt h0).mpr (by exact Pd this)
theorem N8 (x:Int) (h0:0≤x):Builtin.bitAnd x 15=x%16:=by
 unfold Builtin.bitAnd
 rw [decide_eq_true h0]
 obtain ⟨n,rfl⟩:=Int.eq_ofNat_of_zero_le h0
 show ((n&&&15:Nat):Int)=_
 rw [show (15:Nat)=2^4-1 from rfl,Nat.and_two_pow_sub_one_eq_mod]
 rfl
theorem Fq {op:Operator} {o:BOp} (JK:A5 op=some o) (H:ai G μ σ h) (ra:VR G μ a va) (rb:VR G μ b vb) (e:wV (bin o a b σ) K):
  bU G A (binaryOp op va vb) μ h K:=by
 cases op<;>cases JK
 ·exact EG H ra rb e
 all_goals refine λg d tk os Q E q=>eI ra e λx t e=>eI rb e λy u e=> ?_
 ·exact PyProof.Rows.sub_int (q.same H e (cm _ _))
 ·obtain ⟨hs,e⟩:=bG e
  exact PyProof.Rows.mul_int (q.same H e (cm _ _)) (qp (Bool.and_eq_true_iff.mp hs).1)
 ·obtain ⟨hs,e⟩:=bG e
  refine PyProof.Rows.mod_int' (Int.ne_of_gt hs) ?_
  rw [Int.fmod_eq_emod_of_nonneg _ (Int.le_of_lt hs)]
  exact q.same H e (cm _ _)
 ·obtain ⟨hs,e⟩:=bG e
  refine PyProof.Rows.rshift_int (by exact U9 hs) ?_
  rw [hs.2.2,Int.fdiv_eq_ediv_of_nonneg _ (by decide)]
  exact q.same H e (cm _ _)
 ·obtain ⟨hs,e⟩:=bG e
  refine PyProof.Rows.and_int ?_
  rw [hs.2.2,N8 _ hs.1]
  exact q.same H e (cm _ _)
 ·obtain ⟨hs,e⟩:=bG e
  refine PyProof.Rows.floordiv_int (Int.ne_of_gt hs.1) ?_ (.inl ?_)
  ·rw [Int.fdiv_eq_ediv_of_nonneg _ (Int.le_of_lt hs.1)]
   exact q.same H e (cm _ _)
  ·exact PyProof.noPylong_of_log2 (Nat.lt_trans (yg hs.2.2) (by decide))
end
end
theorem tb:(aN.map Str.ofString).Nodup:=by decide+kernel
theorem iL {c d:Nat} {s t:String} (hc:aN[c]?=some s) (hd:aN[d]?=some t) (e:nm s=nm t):c=d:=by
 have h1:(aN.map Str.ofString)[c]?=some (nm s):=by rw [List.getElem?_map,hc];rfl
 have h2:(aN.map Str.ofString)[d]?=some (nm t):=by rw [List.getElem?_map,hd];rfl
 exact (List.getElem?_inj (List.getElem?_eq_some_iff.mp h1).1 tb).mp (h1.trans (e▸h2).symm)
structure d8 (K:Frag) (ca:Addr):Prop where
 get:findIn K (.ref ca) "__getattribute__"=some (some (.builtin "object.__getattribute__"))
 SF:findIn K (.ref ca) "__getattr__"=some none
 set:findIn K (.ref ca) "__setattr__"=some (some (.builtin "object.__setattr__"))
 over:plainOver K ca=true
 dict:hasDictIn K ca=true
 makes:makesIn K ca=true
noncomputable def GH:List (Nat×Value):= [(3, .builtin "ord"),(5, .type "bytes"),(24, .type "bool"),(25, .builtin "isinstance"),(26, .type "int"),(51, .builtin "len"),(60, .type "list"),(105, .type "bytearray"),(111, .builtin "min")]
noncomputable def mi (x:Nat):Option Value:=GH.lookup x
structure dd (G:Gl):Prop where
 X:G.K.In G.h0
 tup: ∀x l,jZ x=some l-> ∃a vs,globV G.K x=some (.ref a)/\IsTup G.h0 a vs/\ae (VR G []) l vs.toList
 tups: ∀x l,jZ x=some l-> ∀y∈l,∃d,y= .str d
 big: ∃o,G.h0.get? sysModules=some o
 blt: ∀x v,mi x=some v->globV G.K x=some v
 bg: ∃vs,G.h0.IsList G.sa vs/\ae (VR G []) (G.bg.map .int) vs.toList
 con: ∀x v,qg x=some v-> ∃u,globV G.K x=some u/\VR G [] v u
 fld: ∀C x,fld C x=true-> ∃ca s,globV G.K C=some (.ref ca)/\d8 G.K ca/\aN[x]?=some s/\findIn G.K (.ref ca) (nm s)=some none
section
variable {G:Gl} {A:Around} {μ:Mu} {σ:a0} {h:Heap}
theorem qU {V:AV} {v:Value} (r:VR G [] V v):VR G μ V v:=r.mono (List.nil_prefix)
theorem lL {a b:AV} {k l:FK} {r:Bool} (ha:bK a=some k) (hb:bK b=some l) (e:j4 a b=some r):r=decide (k=l):=by
 have e:oB (j4 a b) (· =r):=e.symm▸rfl
 cases a with
 |int x=>cases b with
  |int y=>exact (show decide (x=y)=r from e).symm.trans (decide_eq_decide.mpr (Option.some.inj ha▸Option.some.inj hb▸⟨λq=>q▸rfl,λq=>Sum.inl.inj (Sum.inr.inj q)⟩))
  |_=>exact e.elim
 |str c=>cases b with
  |str d=>
   obtain ⟨s,hs,hk⟩:=Option.map_eq_some_iff.mp ha
   obtain ⟨t,ht,hl⟩:=Option.map_eq_some_iff.mp hb
   exact (show decide (c=d)=r from e).symm.trans (decide_eq_decide.mpr (hk▸hl▸⟨λq=>congrArg (Sum.inl<|nm ·) (Option.some.inj (hs.symm.trans (q▸ht))),λq=>iL hs ht (Sum.inl.inj q)⟩))
  |_=>exact e.elim
 |bytes x=>cases b with
  |bytes y=>exact (show decide (x.map UInt8.ofNat=y.map UInt8.ofNat)=r from e).symm.trans (decide_eq_decide.mpr (Option.some.inj ha▸Option.some.inj hb▸⟨λq=>q▸rfl,λq=>Sum.inr.inj (Sum.inr.inj q)⟩))
  |_=>exact e.elim
 |_=>exact e.elim
theorem fV {a b:AV} {k l:FK} {r:Bool} (ha:bK a=some k) (hb:bK b=some l) (e:cC σ a b=some r):r=decide (k=l):=
 lL ha hb (by
  cases a with
  |int x=>exact e
  |str c=>exact e
  |bytes x=>cases e
  |_=>cases ha)
theorem qB: ∀(xs:List AV) {ys:List AV} {ks ls:List FK} {r:Bool},br xs=some ks->br ys=some ls->flatsEq xs ys=some r->r=decide (ks=ls):=by
 intro xs
 induction xs with
 |nil=>
  intro ys ks ls r ha hb e
  cases ys with
  |nil=>cases ha;cases hb;cases e;rfl
  |cons y ys=>cases e
 |cons x xs ih=>
  intro ys ks ls r ha hb e
  cases ys with
  |nil=>cases e
  |cons y ys=>
   obtain ⟨k,ks,h1,h2,rfl⟩:=gv ha
   obtain ⟨l,ls,h3,h4,rfl⟩:=gv hb
   have e:(match (generalizing:=false) j4 x y with|some true=>flatsEq xs ys|some false=>some false|none=>none)=some r:=e
   cases q:j4 x y with
   |none=>rw [q] at e;cases e
   |some c=>
    rw [q] at e
    have z:=lL h1 h3 q
    cases c with
    |true=>
     rw [ih h2 h4 e]
     exact decide_eq_decide.mpr ⟨λw=>by rw [w,of_decide_eq_true z.symm],λw=>(List.cons.inj w).2⟩
    |false=>cases e;exact (decide_eq_false λw=>of_decide_eq_false z.symm (List.cons.inj w).1).symm
theorem i9 {K:AV} {p:AV×AV} {es:List (AV×AV)} {r:Option AV} (e:dget σ K (p::es)=some r):(cC σ p.1 K=some true/\some p.2=r)∨(cC σ p.1 K=some false/\dget σ K es=some r):=by
 have e:(match (generalizing:=false) cC σ p.1 K with|some true=>some (some p.2)|some false=>dget σ K es|none=>none)=some r:=e
 cases q:cC σ p.1 K with
 |none=>rw [q] at e;cases e
 |some c=>
  rw [q] at e
  cases c with
  |true=>exact .inl ⟨rfl,Option.some.inj e⟩
  |false=>exact .inr ⟨rfl,e⟩
theorem qn {K:Type} [DecidableEq K] {p:K×Value} {bq:List (K×Value)} {k:K}:valueAt (p::bq) k=if p.1=k then some p.2 else valueAt bq k:=by
 unfold valueAt
 rw [List.find?_cons]
 by_cases h:p.1=k
 ·rw [decide_eq_true h,if_pos h];rfl
 ·rw [decide_eq_false h,if_neg h]
theorem vS {K:Type} [DecidableEq K] {p:K×Addr×Value} {bq:List (K×Addr×Value)} {k:K}:atKey (p::bq) k=if p.1=k then some p.2 else atKey bq k:=by
 unfold atKey
 rw [List.find?_cons]
 by_cases h:p.1=k
 ·rw [decide_eq_true h,if_pos h];rfl
 ·rw [decide_eq_false h,if_neg h]
theorem ya {K:AV} {k:FK} (hK:bK K=some k) {es:List (AV×AV)} {bq:List (FK×Value)} (A:ae (jC G μ) es bq): ∀{r:Option AV},dget σ K es=some r->fJ G μ r (valueAt bq k):=by
 induction A with
 |nil=>exact λe=>Option.some.inj e▸rfl
 |cons h t ih=>
  intro r e
  rw [qn]
  rcases i9 e with ⟨q,rfl⟩|⟨q,e⟩
  ·rw [if_pos (of_decide_eq_true (fV h.1 hK q).symm)];exact ⟨_,rfl,h.2⟩
  ·rw [if_neg (of_decide_eq_false (fV h.1 hK q).symm)];exact ih e
theorem gY {m n:Nat} {ys xs:List AV} {ks ls:List FK} {r:Bool} (hm:σ.get m=some (.tup ys)) (hn:σ.get n=some (.tup xs)) (h1:br ys=some ks) (h2:br xs=some ls) (e:cC σ (.ref m) (.ref n)=some r):r=decide (ks=ls):=by
 have e:bA σ m (λo=>xn o λxs=>bA σ n λo'=>xn o' λys=>flatsEq xs ys)=some r:=e
 unfold bA at e
 rw [hm,hn] at e
 exact qB _ h1 h2 e
theorem zu {n:Nat} {xs:List AV} {k:List FK} (hn:σ.get n=some (.tup xs)) (hk:br xs=some k) {es:List (AV×AV)} {ys:List (List FK×Addr×Value)} (A:ae (dZ G μ σ) es ys): ∀{r:Option AV},dget σ (.ref n) es=some r->
  fJ G μ r ((atKey ys k).map (·.2)):=by
 induction A with
 |nil=>exact λe=>Option.some.inj e▸rfl
 |cons h t ih=>
  intro r e
  obtain ⟨m,b,zs,h1,h2,h3,h4,h5,h6⟩:=h
  rw [vS]
  rcases i9 e with ⟨q,rfl⟩|⟨q,e⟩
  ·rw [h1] at q;rw [if_pos (of_decide_eq_true (gY h3 hn h4 hk q).symm)];exact ⟨_,rfl,h6⟩
  ·rw [h1] at q;rw [if_neg (of_decide_eq_false (gY h3 hn h4 hk q).symm)];exact ih e
theorem l8 {α:Type} {x:Option α} {a:α} (h:x=none) (h2:x=some a):False:=nomatch h.symm.trans h2
theorem Aj {α β:Type} {R:α->β->Prop} {l:List α} {m:List β} (A:ae R l m): ∀c∈m,∃a,R a c:=by
 induction A with
 |nil=>exact λc hc=>nomatch hc
 |cons h t ih=>exact λc hc=>(List.mem_cons.mp hc).elim (λe=>⟨_,e▸h⟩) (ih c)
theorem vg (b:Array UInt8):(b.toList.map UInt8.toNat).map UInt8.ofNat=b.toList:=by
 rw [List.map_map]
 exact (List.map_congr_left λx _=>UInt8.ofNat_toNat).trans (List.map_id _)
theorem tL {V:AV} {v:Value} {k:FK} (r:VR G μ V v) (e:bK V=some k):FKis k v=true:=by
 cases V with
 |int i=>obtain ⟨t,rfl⟩:=r;cases e;simp [FKis,Value.isInt]
 |str c=>
  obtain ⟨s,t,h1,rfl⟩:=r
  obtain ⟨s',h2,rfl⟩:=Option.map_eq_some_iff.mp e
  cases h1.symm.trans h2
  simp [FKis,Value.isStrOf]
 |bytes l=>
  obtain ⟨b,t,rfl,rfl⟩:=r
  cases e
  rw [vg]
  simp [FKis,PySem.W.isBytes]
 |_=>cases e
theorem lN {xs:List AV} {vs:List Value} (A:ae (VR G μ) xs vs): ∀{ks:List FK},br xs=some ks->ItemsAre (bR G.prog G.w) ks vs:=by
 induction A with
 |nil=>exact λe=>Option.some.inj e▸ .nil
 |cons h t ih=>
  intro ks e
  obtain ⟨k,ks,h1,h2,rfl⟩:=gv e
  exact .cons (tL h h1) (ih h2)
theorem uW {d:Addr} {es:List (AV×AV)} {ob:Obj} {ens:Array DictEntry} {ep:Nat} {xs:List (List FK×Addr×Value)} (H:ai G μ σ h) (e:h.get? d=some ob) (hx:ob.ExactDict) (hd:ob.data= .dict ens ep)
  (he:ens.toList=xs.map (entryOfKey (dA G))) (ha:ae (dZ G μ σ) es xs) (hn:(xs.map (·.1)).Nodup):h.DictOfH (dA G) d xs:=
 ⟨ob,ens,ep,e,hx,hd,he,λx hx=>by
  obtain ⟨p,n,b,ys,q1,q2,q3,q4,q5,q6⟩:=Aj ha x hx
  obtain ⟨vs,⟨o,e1,e2,m,e3⟩,e4⟩:=H.obj q3 q2
  rw [q5]
  exact ⟨o,vs,m,e1,e2,e3,lN e4 q4⟩,hn⟩
theorem xv {a:AV} (e:j7 a=true): ∃k,bK a=some k:=by
 cases a with
 |int=>exact ⟨_,rfl⟩
 |str c=>exact let ⟨s,hs⟩:=Option.isSome_iff_exists.mp e;⟨.inl (nm s),congrArg (Option.map _) hs⟩
 |bytes=>exact ⟨_,rfl⟩
 |_=>cases e
theorem ve: ∀(xs:List AV),xs.all j7=true-> ∃ks,br xs=some ks:=by
 intro xs
 induction xs with
 |nil=>exact λ_=>⟨[],rfl⟩
 |cons x xs ih=>
  intro e
  obtain ⟨e1,e2⟩:=Bool.and_eq_true_iff.mp (List.all_cons▸e)
  obtain ⟨k,hk⟩:=xv e1
  obtain ⟨ks,dV⟩:=ih e2
  exact ⟨k::ks,sI hk dV⟩
theorem tw {a:AV} (e:isKey σ a=true):(∃k,bK a=some k)∨ ∃n xs ks,a= .ref n/\σ.get n=some (.tup xs)/\br xs=some ks:=by
 cases a with
 |int=>exact .inl ⟨_,rfl⟩
 |str c=>exact let ⟨s,hs⟩:=Option.isSome_iff_exists.mp e; .inl ⟨.inl (nm s),congrArg (Option.map _) hs⟩
 |ref n=>
  have e:k7 (σ.get n)=true:=e
  cases q:σ.get n with
  |none=>rw [q] at e;cases e
  |some o=>
   rw [q] at e
   cases o with
   |tup xs=>exact let ⟨ks,dV⟩:=ve xs e; .inr ⟨_,xs,ks,rfl,q,dV⟩
   |_=>cases e
 |_=>cases e
theorem oV (H:ai G μ σ h) {n:Nat} {xs:List AV} {ks:List FK} {b:bu} (hn:σ.get n=some (.tup xs)) (hk:br xs=some ks) (hb:μ[n]?=some b):IsTupleKey (bR G.prog G.w) h ks b.a:=by
 obtain ⟨vs,⟨o,e1,e2,m,e3⟩,e4⟩:=H.obj hn hb
 exact ⟨o,vs,m,e1,e2,e3,lN e4 hk⟩
theorem iN {a:AV} {k:FK} {n:Nat} (ha:bK a=some k):cC σ a (.ref n)=none:=by
 cases a<;>first|rfl|cases ha
theorem iW {a:AV} {k:FK} {n:Nat} (ha:bK a=some k):cC σ (.ref n) a=none:=by
 cases a<;>first|rfl|cases ha
inductive Ad (G:Gl) (μ:Mu) (σ:a0) (h:Heap) (es:List (AV×AV)) (d:Addr) (a:AV) (va:Value) (r:Option AV):Prop
 |flat (k:FK) (bq:List (FK×Value)) (h1:bK a=some k) (h2:FKis k va=true) (D:h.DictOf (bR G.prog G.w) d bq) (z:fJ G μ r (valueAt bq k)) (A:ae (jC G μ) es bq)
 |tup (n:Nat) (xs:List AV) (k:List FK) (c:bu) (ys:List (List FK×Addr×Value)) (e1:a= .ref n) (e2:Value.ref c.a=va) (e3:μ[n]?=some c) (e4:σ.get n=some (.tup xs)) (e5:br xs=some k) (T:IsTupleKey (bR G.prog G.w) h k c.a) (D:h.DictOfH (dA G) d ys)
   (z:fJ G μ r ((atKey ys k).map (·.2))) (A:ae (dZ G μ σ) es ys)
section
variable {b:bu} {es:List (AV×AV)} {a:AV} {va:Value} {r:Option AV}
theorem wG {k:FK} (D:dH G μ σ (.dict es) b h) (hk:bK a=some k) (f:FKis k va=true) (e:dget σ a es=some r):Ad G μ σ h es b.a a va r:=by
 rcases D with ⟨bq,D,y4⟩|⟨ob,ens,ep,ys,y1,y2,y3,y4,y5,y6⟩
 ·exact .flat k bq hk f D (ya hk y4 e) y4
 ·cases y5 with
  |nil=>
   have e0:ens.toList= []:=y4
   exact .flat k [] hk f ⟨ob,ens,ep,y1,y2,y3,λz hz=>(nomatch e0▸Array.mem_toList_iff.mpr hz),e0▸ .nil,List.nodup_nil⟩ (Option.some.inj e▸rfl) .nil
  |cons hd tl=>
   obtain ⟨n,c,zs,h1,_⟩:=hd
   exact (i9 e).elim (λq=>(l8 (iW hk) (h1▸q.1)).elim) λq=>(l8 (iW hk) (h1▸q.1)).elim
theorem A0 {n:Nat} {xs:List AV} {k:List FK} {c:bu} (H:ai G μ σ h) (D:dH G μ σ (.dict es) b h) (hc:μ[n]?=some c) (hn:σ.get n=some (.tup xs)) (hk:br xs=some k) (e:dget σ (.ref n) es=some r):Ad G μ σ h es b.a (.ref n) (.ref c.a) r:=by
 rcases D with ⟨bq,D,y4⟩|⟨ob,ens,ep,ys,y1,y2,y3,y4,y5,y6⟩
 ·cases y4 with
  |nil=>
   obtain ⟨ob,ens,ep,y1,y2,y3,y4,y5,y6⟩:=D
   exact .tup n xs k c [] rfl rfl hc hn hk (oV H hn hk hc) ⟨ob,ens,ep,y1,y2,y3,List.length_eq_zero_iff.mp y5.length,λz q=>(nomatch q),List.nodup_nil⟩ (Option.some.inj e▸rfl) .nil
  |cons hd tl=>exact (i9 e).elim (λq=>(l8 (iN hd.1) q.1).elim) λq=>(l8 (iN hd.1) q.1).elim
 ·exact .tup n xs k c ys rfl rfl hc hn hk (oV H hn hk hc) (uW H y1 y2 y3 y4 y5 y6) (zu hn hk y5 e) y5
end
theorem uZ (H:ai G μ σ h) {x:Nat} {b:bu} {es:List (AV×AV)} {a:AV} {va:Value} {r:Option AV} (hx:σ.get x=some (.dict es)) (hb:μ[x]?=some b) (ra:VR G μ a va) (e:cJ σ a es=some r):Ad G μ σ h es b.a a va r:=by
 obtain ⟨hk,z⟩:=bG (P:=(· =r)) (show oB (cJ σ a es) _ from e.symm▸rfl)
 have e:dget σ a es=some r:=let ⟨_,z1,z2⟩:=eP z;z2▸z1
 rcases tw hk with ⟨k,hk⟩|⟨n,xs,k,ha,hn,kk⟩
 ·exact wG (H.obj hx hb) hk (tL ra hk) e
 ·subst ha
  exact let ⟨c,hc,y⟩:=ra;y▸A0 H (H.obj hx hb) hc hn kk e
end
section
variable {G:Gl} {A:Around} {μ:Mu} {σ:a0} {h:Heap}
theorem toNat_inj {a b:List UInt8} (h:a.map UInt8.toNat=b.map UInt8.toNat):a=b:=by
 induction a generalizing b with
 |nil=>cases b<;>simp at h;rfl
 |cons x xs ih=>
  cases b with
  |nil=>simp at h
  |cons y ys=>
   simp only [List.map_cons,List.cons.injEq] at h
   rw [UInt8.toNat_inj.mp h.1,ih h.2]
theorem oZ (a b:Array UInt8):(a.toList.map UInt8.toNat==b.toList.map UInt8.toNat)=(a.toList==b.toList):=by
 rw [Bool.eq_iff_iff];simp only [beq_iff_eq]
 exact ⟨toNat_inj,λe=>by rw [e]⟩
theorem qh {c d:Nat} {s t:String} (hc:aN[c]?=some s) (hd:aN[d]?=some t):decide (c=d)=decide (nm s=nm t):=by
 rw [Bool.eq_iff_iff];simp only [decide_eq_true_eq]
 exact ⟨λe=>by subst e;rw [hc] at hd;cases hd;rfl,iL hc hd⟩
theorem t5 {prog:Program} {w:World} {A:Around} {E:Value->Shared->Prop} {s:Shared} {a b:Bool} {Q:Bool->Shared->Prop} (h:Q (a==b) s):wpAny (model prog w) A (PySem.eqBool (.bool a) (.bool b)) Q E s:=by
 unfold PySem.eqBool
 refine wpAny_holding ?_
 by_cases JL:(Value.bool a==Value.bool b)=true
 ·rw [if_pos JL]
  have e:a=b:=by have:=eq_of_beq JL;injection this
  subst e
  exact wpAny_bind (wpAny_rule (wpAny_pure (by simpa using h)))
 ·rw [if_neg JL]
  exact wpAny_bind (PyProof.Rows.eq_bool (wpAny_truthy_bool h))
theorem wI (a b:Array UInt8):decide (a.toList=b.toList)=(a.toList.map UInt8.toNat==b.toList.map UInt8.toNat):=by
 rw [oZ,Bool.eq_iff_iff,decide_eq_true_iff,beq_iff_eq]
theorem hO {α:Type} {o:Option α} {r:α} (h:o=some r):oB o (· =r):=h▸rfl
theorem eB {α:Type} {P:α->Prop} {b:AV} {vb:Value} {f:Bool->α} {M:Value->Prop} (rb:VR G μ b vb) (e:oB (match b with| .bool y=>some (f y)|_=>none) P) (q: ∀y,P (f y)->M (.bool y)):M vb:=by
 cases b with
 |bool y=>exact (show vb= .bool y from rb)▸q y e
 |_=>exact e.elim
theorem xe {a b:AV} {va vb:Value} {r:Bool} {s:Shared} (ra:VR G μ a va) (rb:VR G μ b vb) (e:oB (eW a b) (· =r)):SeqAt.EqAt A s va vb r:=by
 intro prog w E Q hq
 cases a with
 |int x=>
  obtain ⟨t,rfl⟩:=ra
  exact eI (M:=λvb=>wpAny (model prog w) A (PySem.eqBool (.int x t) vb) Q E s) rb e λy u e=>wpAny_eqBool_int ((show (x==y)=r from e)▸hq)
 |str c=>
  obtain ⟨s0,t,h1,rfl⟩:=ra
  exact eS (M:=λvb=>wpAny (model prog w) A (PySem.eqBool (.str (nm s0) t) vb) Q E s) rb e λd s' u h2 e=>wpAny_eqBool_str ((qh h1 h2).symm.trans e▸hq)
 |bool x=>cases ra;exact eB (M:=λvb=>wpAny (model prog w) A (PySem.eqBool (.bool x) vb) Q E s) rb e λy e=>t5 ((show (x==y)=r from e)▸hq)
 |bytes x=>
  obtain ⟨b,t,rfl,rfl⟩:=ra
  exact eY (M:=λvb=>wpAny (model prog w) A (PySem.eqBool (.bytes b t) vb) Q E s) rb e λc u e=>PySem.W.eqBool_bytes ((wI b c).trans e▸hq)
 |ref x=>
  obtain ⟨b,h1,rfl⟩:=ra
  refine eR (M:=λvb=>wpAny (model prog w) A (PySem.eqBool (.ref b.a) vb) Q E s) rb e λn c h2 e=> ?_
  obtain ⟨q,e⟩:=bG e
  obtain rfl:b=c:=Option.some.inj (h1.symm.trans (q▸h2))
  have z:true=r:=e
  subst z
  exact SeqAt.EqAt.same _ _ _ _ _ hq
 |_=>exact e.elim
theorem Ep {a b:AV} {va vb:Value} {r:Bool} {s:Shared} {prog:Program} {w:World} {E:Value->Shared->Prop} {Q:Value->Shared->Prop} (ra:VR G μ a va) (rb:VR G μ b vb) (e:oB (eW a b) (· =r)) (hr: ∀x,a≠ .ref x):
  (Q (.bool r) s->wpAny (model prog w) A (compareOp .Eq va vb) Q E s)/\(Q (.bool (!r)) s->wpAny (model prog w) A (compareOp .NotEq va vb) Q E s):=by
 cases a with
 |int x=>
  obtain ⟨t,rfl⟩:=ra
  exact eI (M:=λvb=>(Q (.bool r) s->wpAny (model prog w) A (compareOp .Eq (.int x t) vb) Q E s)/\(Q (.bool (!r)) s->wpAny (model prog w) A (compareOp .NotEq (.int x t) vb) Q E s)) rb e λy u e=>e▸⟨PyProof.Rows.eq_int,PyProof.Rows.ne_int⟩
 |str c=>
  obtain ⟨s0,t,h1,rfl⟩:=ra
  exact eS (M:=λvb=>(Q (.bool r) s->wpAny (model prog w) A (compareOp .Eq (.str (nm s0) t) vb) Q E s)/\(Q (.bool (!r)) s->wpAny (model prog w) A (compareOp .NotEq (.str (nm s0) t) vb) Q E s)) rb e λd s' u h2 e=>
   (qh h1 h2).symm.trans e▸⟨PyProof.Rows.eq_str,PyProof.Rows.ne_str⟩
 |bool x=>
  cases ra
  exact eB (M:=λvb=>(Q (.bool r) s->wpAny (model prog w) A (compareOp .Eq (.bool x) vb) Q E s)/\(Q (.bool (!r)) s->wpAny (model prog w) A (compareOp .NotEq (.bool x) vb) Q E s)) rb e λy e=>e▸⟨PyProof.Rows.eq_bool,PyProof.Rows.ne_bool⟩
 |bytes x=>
  obtain ⟨b,t,rfl,rfl⟩:=ra
  exact eY (M:=λvb=>(Q (.bool r) s->wpAny (model prog w) A (compareOp .Eq (.bytes b t) vb) Q E s)/\(Q (.bool (!r)) s->wpAny (model prog w) A (compareOp .NotEq (.bytes b t) vb) Q E s)) rb e λc u e=>
   (oZ b c).symm.trans e▸⟨PySem.W.eq_bytes,PySem.W.ne_bytes⟩
 |ref x=>exact absurd rfl (hr x)
 |_=>exact e.elim
theorem oR {s:Shared} {xs:List AV} {vs:List Value} (ax:ae (VR G μ) xs vs): ∀{ys:List AV} {ws:List Value} {r:Bool},ae (VR G μ) ys ws->listEq xs ys=some r->
  ∃e:Nat->Bool,(∀j (h1:j<vs.length) (h2:j<ws.length),SeqAt.EqAt A s vs[j] ws[j] (e j))/\(List.range vs.length).all e=r:=by
 induction ax with
 |nil=>
  intro ys ws r ay e
  cases ay with
  |nil=>exact ⟨λ_=>true,λj h1=>absurd h1 (Nat.not_lt_zero _),Option.some.inj e⟩
  |cons _ _=>cases e
 | @cons x v xs vs hx tx ih=>
  intro ys ws r ay e
  cases ay with
  |nil=>cases e
  | @cons y w ys ws hy ty=>
   have e:(match (generalizing:=false) eW x y with|some a=>(listEq xs ys).map (a&& ·)|none=>none)=some r:=e
   cases e1:eW x y with
   |none=>rw [e1] at e;cases e
   |some a=>
    rw [e1] at e
    obtain ⟨c,e2,e3⟩:=Option.map_eq_some_iff.mp e
    obtain ⟨f,f1,f2⟩:=ih ty e2
    refine ⟨λj=>match j with|0=>a|j+1=>f j,λj=> ?_, ?_⟩
    ·cases j with
     |zero=>exact λ_ _=>xe hx hy (hO e1)
     |succ j=>exact λh1 h2=>f1 j (Nat.lt_of_succ_lt_succ h1) (Nat.lt_of_succ_lt_succ h2)
    ·rw [List.length_cons,List.range_succ_eq_map,List.all_cons,List.all_map]
     exact (congrArg (a&& ·) f2).trans e3
theorem cy.lt {A:Around} {n:Nat} (R:cy A n):A.units<cLine:=by have:=R.units;exact Tv this
theorem cy.xt {A:Around} {n:Nat} (R:cy A n):A.in1.units<cLine:=by have:=R.units;show A.units+1<cLine;exact UL this
theorem ai.l7 {G:Gl} {μ:Mu} {σ:a0} {h:Heap} (K:dd G) (H:ai G μ σ h) {b:bu} (hb:b∈μ):(b.a==sysModules)=false:=by
 rw [beq_eq_false_iff_ne]
 intro q
 obtain ⟨o,e⟩:=K.big
 rw [←q,H.ge ⟨b,hb, .inl rfl⟩] at e;cases e
theorem fJ.isSome {r:Option AV} {o:Option Value} (z:fJ G μ r o):o.isSome=r.isSome:=by
 cases r with
 |none=>cases (show o=none from z);rfl
 |some V=>obtain ⟨v,rfl,_⟩:=z;rfl
theorem ox {a:AV} {va:Value} (ra:VR G μ a va) (hg:gz a=true):plainIs va .none=true/\(va==Value.none)=isNone a:=by
 cases a with
 |int i=>exact let ⟨t,z⟩:=ra;z▸⟨rfl,rfl⟩
 |str c=>exact let ⟨s,t,_,z⟩:=ra;z▸⟨rfl,rfl⟩
 |chr c=>exact let ⟨t,z⟩:=ra;z▸⟨rfl,rfl⟩
 |bytes l=>exact let ⟨b,t,z,_⟩:=ra;z▸⟨rfl,rfl⟩
 |gJ x=>cases hg
 |ref n=>exact let ⟨b,_,z⟩:=ra;z▸⟨rfl,rfl⟩
 |_=>cases ra;exact ⟨rfl,rfl⟩
theorem EL {s:Shared} {c:Nat} {s0:String} {t0:Tok} (hc:aN[c]?=some s0) {l:List AV} {vs:List Value} (ha:ae (VR G μ) l vs) (hs: ∀x∈l,∃d,x= .str d):
  ∃f:Value->Bool,(∀y∈vs,SeqAt.EqAt A s y (.str (nm s0) t0) (f y))/\vs.any f=l.any (mW c):=by
 refine ⟨λy=>match y with| .str x _=>decide (x=nm s0)|_=>false, ?_⟩
 induction ha with
 |nil=>exact ⟨(λy hy=>absurd hy List.not_mem_nil),rfl⟩
 |cons h t ih=>
  obtain ⟨d,rfl⟩:=hs _ (.head _)
  obtain ⟨Vm,Vn⟩:=ih λx hx=>hs x (.tail _ hx)
  obtain ⟨s1,t1,hd,rfl⟩:=h
  refine ⟨λy hy=>(List.mem_cons.mp hy).elim (λz=>z▸λprog w E Q hq=>wpAny_eqBool_str hq) (Vm y), ?_⟩
  rw [List.any_cons,List.any_cons,Vn]
  exact congrArg (· ||_) (qh hd hc).symm
section
variable {a b:AV} {va vb:Value} {n:Nat} {g:Array GenState} {d:Drawn} {tk:Nat} {os:OsState} {Q:Value->Shared->Prop} {E:Value->Shared->Prop}
structure Az (G:Gl) (A:Around) (o1 o2:CmpOp) (va vb:Value) (h:Heap) (r:Bool):Prop where
 y: ∀(g:Array GenState) (d:Drawn) (tk:Nat) (os:OsState) (Q:Value->Shared->Prop) (E:Value->Shared->Prop),(∀aH,Q (.bool r) ⟨h,g,d,aH,os⟩)->wpAny (model G.prog G.w) A (compareOp o1 va vb) Q E ⟨h,g,d,tk,os⟩
 n: ∀(g:Array GenState) (d:Drawn) (tk:Nat) (os:OsState) (Q:Value->Shared->Prop) (E:Value->Shared->Prop),(∀aH,Q (.bool (!r)) ⟨h,g,d,aH,os⟩)->wpAny (model G.prog G.w) A (compareOp o2 va vb) Q E ⟨h,g,d,tk,os⟩
theorem wO (R:cy A n) {r:Bool} (H:ai G μ σ h) (ra:VR G μ a va) (rb:VR G μ b vb) (e:oB (eqv σ a b) (· =r)):Az G A .Eq .NotEq va vb h r:=by
 by_cases hr: ∃x,a= .ref x
 ·obtain ⟨x,rfl⟩:=hr
  obtain ⟨bx,e1,rfl⟩:=ra
  refine eR rb e λy c e2 e=> ?_
  obtain ⟨xs,vs,_,l1,r1,n1,e⟩:=eL H e1 e
  obtain ⟨ys,ws,_,l2,r2,n2,e⟩:=eL H e2 e
  by_cases hl:xs.length=ys.length
  ·rw [if_pos hl] at e
   have hs:vs.size=ws.size:=n1.symm.trans (hl.trans n2)
   have e3:listEq xs ys=some r:=let ⟨_,z1,z2⟩:=eP e;z2▸z1
   refine ⟨λg d tk os Q E hq=> ?_,λg d tk os Q E hq=> ?_⟩
   ·obtain ⟨f,f1,f2⟩:=oR (A:=A.in1) (s:=⟨h,g,d,tk,os⟩) r1 r2 e3
    exact SeqAt.RcAt.lists (s:=⟨h,g,d,tk,os⟩) l1.isList l2.isList hs R.lt (λj h1 h2=>f1 j h1 h2) _ _ _ _ (f2▸hq tk)
   ·obtain ⟨f,f1,f2⟩:=oR (A:=A.in1) (s:=⟨h,g,d,tk,os⟩) r1 r2 e3
    exact SeqAt.RcNeAt.lists (s:=⟨h,g,d,tk,os⟩) l1.isList l2.isList hs R.lt (λj h1 h2=>f1 j h1 h2) _ _ _ _ (f2▸hq tk)
  ·rw [if_neg hl] at e
   have hs:(vs.size !=ws.size)=true:=bne_iff_ne.mpr (n1▸n2▸hl)
   have e:false=r:=e
   exact e▸⟨λg d tk os Q E hq=>SeqAt.RcAt.lists_lengths (s:=⟨h,g,d,tk,os⟩) l1.isList l2.isList hs R.lt _ _ _ _ (hq tk),λg d tk os Q E hq=>SeqAt.RcNeAt.lists_lengths (s:=⟨h,g,d,tk,os⟩) l1.isList l2.isList hs R.lt _ _ _ _ (hq tk)⟩
 ·have e:oB (eW a b) (· =r):=by
   cases a with
   |ref x=>exact absurd ⟨x,rfl⟩ hr
   |_=>exact e
  have z:=λ{Q E s}=>Ep (A:=A) (s:=s) (prog:=G.prog) (w:=G.w) (E:=E) (Q:=Q) ra rb e λx q=>hr ⟨x,q⟩
  exact ⟨λg d tk os Q E hq=>z.1 (hq tk),λg d tk os Q E hq=>z.2 (hq tk)⟩
theorem Hr (K:dd G) (R:cy A n) {r:Bool} (H:ai G μ σ h) (ra:VR G μ a va) {x:Nat} {bx:bu} (e1:μ[x]?=some bx) {es:List (AV×AV)} (hx:σ.get x=some (.dict es)) {o:Option AV} (e:cJ σ a es=some o):Az G A .In .NotIn va (.ref bx.a) h o.isSome:=by
 have nm:=H.l7 K (List.mem_of_getElem? e1)
 cases uZ H hx e1 ra e with
 |flat k bq h1 h2 D z _=>
  rw [←z.isSome]
  exact ⟨λg d tk os Q E hq=>wpAny_in_of (s:=⟨h,g,d,tk,os⟩) h2 nm D.mapOf (hq _),λg d tk os Q E hq=>wpAny_notIn_of (s:=⟨h,g,d,tk,os⟩) h2 nm D.mapOf (hq _)⟩
 |tup m xs k c ys q1 q2 q3 q4 q5 T D z _=>
  rw [←z.isSome,Option.isSome_map,←q2]
  exact ⟨λg d tk os Q E hq=>wpAny_in_heap (s:=⟨h,g,d,tk,os⟩) (knd:=dA G) R.xt T nm D (hq _),λg d tk os Q E hq=>wpAny_notIn_heap (s:=⟨h,g,d,tk,os⟩) (knd:=dA G) R.xt T nm D (hq _)⟩
theorem u7 (K:dd G) (R:cy A n) {r:Bool} (H:ai G μ σ h) (ra:VR G μ a va) (rb:VR G μ b vb) (e:oB (inv a b σ) (· =r)):(∀(g:Array GenState) (d:Drawn) (tk:Nat) (os:OsState) (Q:Value->Shared->Prop) (E:Value->Shared->Prop),(∀aH,Q (.bool r) ⟨h,g,d,aH,os⟩)->wpAny (model G.prog G.w) A (compareOp .In va vb) Q E ⟨h,g,d,tk,os⟩)/\((∃x,b= .ref x)->Az G A .In .NotIn va vb h r):=by
 cases b with
 |gJ x=>
  refine ⟨λg d tk os Q E hq=> ?_,λz=>nomatch z⟩
  have e:oB (match (generalizing:=false) jZ x with|some l=>u6 a λc=>some (l.any (mW c))|none=>none) (· =r):=e
  cases hx:jZ x with
  |none=>rw [hx] at e;exact e.elim
  |some l=>
   rw [hx] at e
   obtain ⟨ad,vs,e1,⟨o,q1,q2⟩,e3⟩:=K.tup _ _ hx
   cases Option.some.inj ((show globV G.K x=some vb from rb).symm.trans e1)
   refine eS ra e λc s t hc e=> ?_
   obtain ⟨f,f1,f2⟩:=EL (A:=A.in1) (s:=⟨h,g,d,tk,os⟩) (t0:=t) hc e3 (K.tups _ _ hx)
   refine SeqAt.in_tupleAt (s:=⟨h,g,d,tk,os⟩) (items:=vs) f ⟨o,H.base _ _ q1,q2⟩ (λy hy=>f1 y (Array.mem_toList_iff.mpr hy)) ?_
   rw [←Array.any_toList,f2,show l.any (mW c)=r from e]
   exact hq _
 |ref x=>
  obtain ⟨bx,e1,rfl⟩:=rb
  obtain ⟨es,hx,e⟩:=eD (σ:=σ) (n:=x) (f:=λes=>(cJ σ a es).map λo:Option AV=>o.isSome) (P:=(· =r)) e
  obtain ⟨o,e2,e⟩:=m6 (P:=(· =r)) e
  have z:=Hr K R (r:=r) H ra e1 hx e2
  exact (show o.isSome=r from e)▸⟨λg d tk os Q E hq=>z.y g d tk os Q E hq,λ_=>z⟩
 |_=>exact e.elim
theorem xf {K:Bool->Prop} (ra:VR G μ a va) (rb:VR G μ b vb) (e:oB (HU a b) K):vb= .none/\plainIs va .none=true/\K (va==Value.none):=by
 cases b with
 |none=>exact let ⟨hg,e⟩:=bG e;⟨rb,(ox ra hg).1,(ox ra hg).2▸e⟩
 |_=>exact e.elim
theorem vX {K:AV->a0->Prop} {f:Int->Int->Bool} {op:CmpOp} (H:ai G μ σ h) (ra:VR G μ a va) (rb:VR G μ b vb) (e:oB (bV a λx=>bV b λy=>some (f x y)) λr=>K (.bool r) σ)
  (z: ∀{x y:Int} {t u:Tok} {s:Shared} {Q:Value->Shared->Prop} {E:Value->Shared->Prop},Q (.bool (f x y)) s->wpAny (model G.prog G.w) A (compareOp op (.int x t) (.int y u)) Q E s):bU G A (compareOp op va vb) μ h K:=
 λg d tk os Q E q=>eI ra e λx t e=>eI rb e λy u e=>z (q.same H e rfl)
theorem Ik {α:Type} {P:α->Prop} {f:Nat->Option α} (e:oB (dY b f) P): ∃n,b= .ref n/\oB (f n) P:=by
 cases b with
 |ref n=>exact ⟨n,rfl,e⟩
 |_=>exact e.elim
theorem u5 {K:AV->a0->Prop} {o:COp} (e:pU o a K b σ):oB (fF o a b σ) λr=>K (.bool r) σ:=by
 unfold pU at e
 cases h:fF o a b σ with
 |none=>rw [h] at e;exact e
 |some r=>rw [h] at e;exact e
theorem GU (X:dd G) (R:cy A n) {op:CmpOp} {o:COp} {K:AV->a0->Prop} (JK:AZ op=some o) (H:ai G μ σ h) (ra:VR G μ a va) (rb:VR G μ b vb) (e:pU o a K b σ):bU G A (compareOp op va vb) μ h K:=by
 have e:=u5 e
 cases op<;>cases JK
 ·obtain ⟨r,h1,e⟩:=eP e
  exact λg d tk os Q E q=>(wO R H ra rb (r:=r) (hO h1)).y g d tk os Q E λaH=>q.same H e rfl
 ·obtain ⟨r,h1,e⟩:=m6 e
  exact λg d tk os Q E q=>(wO R H ra rb (r:=r) (hO h1)).n g d tk os Q E λaH=>q.same H e rfl
 ·exact vX H ra rb e PyProof.Rows.lt_int
 ·exact vX H ra rb e PySem.P.le_int
 ·exact vX H ra rb e PyProof.Rows.gt_int
 ·exact vX H ra rb e PySem.P.ge_int
 ·obtain ⟨rfl,h1,e⟩:=xf ra rb e
  exact λg d tk os Q E q=>wpAny_is_plain h1 (q.same H e rfl)
 ·obtain ⟨r,h0,e⟩:=m6 e
  obtain ⟨rfl,h1,h2⟩:=xf (K:=(· =r)) ra rb (hO h0)
  exact λg d tk os Q E q=>wpAny_isNot_plain h1 (h2▸q.same H e rfl)
 ·obtain ⟨r,h1,e⟩:=eP e
  exact λg d tk os Q E q=>(u7 X R H ra rb (r:=r) (hO h1)).1 g d tk os Q E λaH=>q.same H e rfl
 ·obtain ⟨x,rfl,e⟩:=Ik e
  obtain ⟨r,h1,e⟩:=m6 e
  exact λg d tk os Q E q=>((u7 X R H ra rb (r:=r) (hO h1)).2 ⟨x,rfl⟩).n g d tk os Q E λaH=>q.same H e rfl
end
end
section
variable {G:Gl} {A:Around} {μ:Mu} {σ:a0} {h:Heap}
noncomputable def rD (G:Gl) (A:Around) (t:Sem Value) (μ:Mu) (h:Heap) (P:AV->Prop):Prop:=
 ∀(g:Array GenState) (d:Drawn) (tk:Nat) (os:OsState) (Q:Value->Shared->Prop) (E:Value->Shared->Prop),
  (∀v V aH,P V->VR G μ V v->Q v ⟨h,g,d,aH,os⟩)->wpAny (model G.prog G.w) A t Q E ⟨h,g,d,tk,os⟩
theorem rD.ok {G:Gl} {A:Around} {t:Sem Value} {μ:Mu} {h:Heap} {K:AV->a0->Prop} {σ:a0} (H:ai G μ σ h) (e:rD G A t μ h λV=>K V σ):bU G A t μ h K:=
 λg d tk os Q E q=>e g d tk os Q E λv V aH k r=>q.same H k r
theorem dW (slice:Expr) (o i:Value): ∃ops,subscripted slice false o i=operate ops (getItem o i):=by
 cases slice with
 |Slice l u st p=>cases st<;>exact ⟨_,rfl⟩
 |_=>exact ⟨_,rfl⟩
theorem ae.at {α β:Type} {R:α->β->Prop} {l:List α} {m:Array β} (h:ae R l m.toList) {i:Nat} {a:α} (e:l[i]?=some a): ∃b,m[i]?=some b/\R a b:=
 let ⟨b,hb,r⟩:=h.get' e
 ⟨b,Array.getElem?_toList.symm.trans hb,r⟩
section
variable {n:Nat} {value slice:Expr} {i:AV} {vi:Value} {P:AV->Prop}
theorem yd {xs:List AV} {vs:Array Value} {M:Value->Prop} (A:ae (VR G μ) xs vs.toList) (ri:VR G μ i vi) (e:oB (zg xs i) P) (q: ∀(k:Int) t v V,0≤k->k.natAbs<1000000000000->vs[k.toNat]?=some v->P V->VR G μ V v->M (.int k t)):M vi:=
 eI (M:=M) ri e λk t e=>
  let ⟨h0,e⟩:=bG e
  let ⟨V,h1,p⟩:=eP e
  let ⟨v,hv,rv⟩:=A.at h1
  q k t v V h0.1 (of_decide_eq_true h0.2) hv p rv
theorem gS {b:Array UInt8} {t:Tok} (ri:VR G μ i vi) (e:oB (bT (.bytes (b.toList.map UInt8.toNat)) i σ) P):rD G A (subscriptTail value slice (.bytes b t) vi) μ h P:=by
 intro g d tk os Q E q
 refine eI ri e λk u e=> ?_
 obtain ⟨h0,e⟩:=bG e
 obtain ⟨x,hx,p⟩:=m6 e
 obtain ⟨ops,hs⟩:=dW slice (.bytes b t) (.int k u)
 obtain ⟨l⟩:=b
 refine tail_any (PySem.W.typeIs_bytes _ ⟨l⟩ t) PySem.W.FB.slot_bytes_getitem.lookup ?_ hs
 rw [List.getElem?_map] at hx
 obtain ⟨y,hy,rfl⟩:=Option.map_eq_some_iff.mp hx
 have dN:=(List.getElem?_eq_some_iff.mp hy).1
 have hl:=h0.2
 rw [List.length_map] at hl
 refine PySem.W.getItem_bytes (by have:l.length≤aw:=hl;unfold aw at this;exact OZ this) h0.1 ((Int.toNat_lt h0.1).mp dN) ?_
 rw [List.getD_eq_getElem?_getD,hy]
 exact q _ _ _ p (cm _ _)
theorem BW (K:dd G) (R:cy A n) {a:AV} {va:Value} (H:ai G μ σ h) (ra:VR G μ a va) (ri:VR G μ i vi) (e:oB (bT a i σ) P):rD G A (subscriptTail value slice va vi) μ h P:=by
 cases a with
 |bytes l=>obtain ⟨b,t,rfl,rfl⟩:=ra;exact gS ri e
 |ref r=>
  obtain ⟨b,e1,rfl⟩:=ra
  intro g d tk os Q E q
  obtain ⟨ops,hs⟩:=dW slice (.ref b.a) vi
  obtain ⟨o,hx,e⟩:=eO (σ:=σ) (n:=r) (P:=P) e
  have D:=H.obj hx e1
  cases o with
  |list xs=>
   obtain ⟨vs,l1,r1⟩:=D
   refine tail_any (s:=⟨h,g,d,tk,os⟩) l1.isList.typeIs slot_list_getitem.lookup ?_ hs
   exact yd (M:=λvi=>wpAny (model G.prog G.w) A (getItem (.ref b.a) vi) Q E ⟨h,g,d,tk,os⟩) r1 ri e λk t v V h0 h1 h2 p rv=>wpAny_getItem_list (s:=⟨h,g,d,tk,os⟩) l1.isList h0 (by exact Ai h1) h2 (q _ _ _ p rv)
  |tup xs=>
   obtain ⟨vs,l1,r1⟩:=D
   refine tail_any (s:=⟨h,g,d,tk,os⟩) (IsTup.typeIs (s:=⟨h,g,d,tk,os⟩) l1) slot_tuple_getitem.lookup ?_ hs
   refine yd (M:=λvi=>wpAny (model G.prog G.w) A (getItem (.ref b.a) vi) Q E ⟨h,g,d,tk,os⟩) r1 ri e λk t v V h0 h1 h2 p rv=> ?_
   have dN:k<(vs.size:Int):=(Int.toNat_lt h0).mp (Array.getElem?_eq_some_iff.mp h2).1
   have hj:seqIndex? k vs.size=some k.toNat:=by
    simp [seqIndex?,Int.not_lt.mpr h0,h0,dN]
   exact getItem_tuple (s:=⟨h,g,d,tk,os⟩) l1 (by exact QD h0) (by exact Ai h1) hj h2 (q _ _ _ p rv)
  |dict es=>
   have e:oB (match (generalizing:=false) cJ σ i es with|some o=>o|none=>none) P:=e
   cases hd:cJ σ i es with
   |none=>rw [hd] at e;exact e.elim
   |some o=>
    rw [hd] at e
    obtain ⟨V,rfl,p⟩:=eP e
    cases uZ H hx e1 ri hd with
    |flat k bq h1 h2 D z _=>
     exact let ⟨w,hw,rw⟩:=z;tail_any (s:=⟨h,g,d,tk,os⟩) D.mapOf.typeIs slot_dict_getitem.lookup (wpAny_getItem_of (s:=⟨h,g,d,tk,os⟩) h2 D.mapOf hw (q _ _ _ p rw)) hs
    |tup m xs k c ys q1 q2 q3 q4 q5 T D z _=>
     rw [←q2] at hs⊢
     exact let ⟨w,hw,rw⟩:=z;let ⟨y,hp,hq⟩:=Option.map_eq_some_iff.mp hw;tail_any (s:=⟨h,g,d,tk,os⟩) D.typeIs slot_dict_getitem.lookup (wpAny_getItem_heap (s:=⟨h,g,d,tk,os⟩) (knd:=dA G) R.xt T D hp (q _ _ _ p (hq▸rw))) hs
  |_=>exact e.elim
 |_=>exact e.elim
end
theorem yy {m:Str->Option Value} {d:Addr} {name:Str} (hn:h.Ns d m): ∃od,h.get? d=some od/\lookIn name od=some (m name):=by
 obtain ⟨o,es,ep,ho,hd,hk,hm⟩:=hn
 refine ⟨o,ho, ?_⟩
 unfold lookIn
 rw [hd]
 dsimp only
 have hm:=hm name
 unfold nsFind findBy at hm
 rw [←Array.find?_toList] at hm
 cases hf:es.toList.find? (λx=>x.key.isStr name) with
 |some e=>
  rw [show (es.toList.find? λe=>(λ(k:Str) v=>Value.isStr v k) name e.key)=some e from hf] at hm
  rw [←hm];rfl
 |none=>
  rw [show (es.toList.find? λe=>(λ(k:Str) v=>Value.isStr v k) name e.key)=none from hf] at hm
  dsimp only
  rw [←hm]
  have:es.toList.any (λx=>x.refKey)=false:=by
   rw [List.any_eq_false]
   intro e he
   obtain ⟨n,t,q⟩:=hk e (Array.mem_toList_iff.mp he)
   simp [DictEntry.refKey,q]
  rw [this];rfl
theorem xy {V:AV} {v:Value} (r:VR G μ V v) (hg:gz V=true):handedIn v=true:=by
 cases V with
 |int i=>exact let ⟨t,z⟩:=r;z▸rfl
 |str c=>exact let ⟨s,t,_,z⟩:=r;z▸rfl
 |chr c=>exact let ⟨t,z⟩:=r;z▸rfl
 |bytes l=>exact let ⟨b,t,z,_⟩:=r;z▸rfl
 |gJ x=>cases hg
 |ref n=>exact let ⟨b,_,z⟩:=r;z▸rfl
 |_=>cases r;rfl
inductive NH (G:Gl) (μ:Mu) (C:Nat) (fs:List (Nat×AV)) (b:bu) (h:Heap) (name:Str):Prop
 |mk (ca:Addr) (m:Str->Option Value) (od:Obj) (e1:globV G.K C=some (.ref ca)) (e2:h.get? b.a=some (instObj ca b.d)) (e3:h.Ns1 b.d m) (e4:PySem.Within m (fs.map λe=>jJ e.1)) (e5: ∀x s,aN[x]?=some s->fJ G μ (flook x fs) (m (nm s)))
   (I:InstAt h b.a (instObj ca b.d) ca (some od)) (l:lookIn name od=some (m name))
theorem rp (H:ai G μ σ h) {r C:Nat} {fs:List (Nat×AV)} {b:bu} (hr:σ.get r=some (.inst C fs)) (hb:μ[r]?=some b) (name:Str):NH G μ C fs b h name:=
 let ⟨ca,m,e1,e2,e3,e4,e5⟩:=H.obj hr hb
 let ⟨od,q1,q2⟩:=yy (name:=name) e3.ns
 ⟨ca,m,od,e1,e2,e3,e4,e5,⟨e2,rfl,rfl,q1⟩,q2⟩
inductive Ro (G:Gl) (ca:Addr) (s:String):Prop
 |mk (c:d8 G.K ca) (f:findIn G.K (.ref ca) (nm s)=some none)
theorem Fm (K:dd G) {C x:Nat} {ca:Addr} {s:String} (hf:fld C x=true) (e:globV G.K C=some (.ref ca)) (hs:aN[x]?=some s):Ro G ca s:=by
 obtain ⟨Vp,s',q1,q2,q3,q4⟩:=K.fld _ _ hf
 cases q1.symm.trans e
 cases q3.symm.trans hs
 exact ⟨q2,q4⟩
theorem wQ (K:dd G) {a:AV} {x:Nat} {s:String} (hs:aN[x]?=some s) {va:Value} {P:AV->Prop} {expr:Bool} (H:ai G μ σ h) (ra:VR G μ a va) (e:oB (bz a x σ) P):
  rD G A (getAttr va (nm s) expr) μ h P:=by
 intro g d tk os Q E q
 refine eR ra e λr b hb e=> ?_
 obtain ⟨C,fs,hr,e⟩:=eN e
 obtain ⟨hf,e⟩:=bG e
 cases hV:flook x fs with
 |none=>rw [hV] at e;exact e.elim
 |some V=>
  rw [hV] at e
  obtain ⟨hg,p⟩:=bG e
  cases rp H hr hb (nm s) with
  |mk ca m od e1 e2 e3 e4 e5 I l=>
   cases Fm K hf e1 hs with
   |mk c ff=>
    have z:=e5 x s hs
    rw [hV] at z
    exact let ⟨v,hv,rv⟩:=z;get_value (s:=⟨h,g,d,tk,os⟩) (K.X.keeps H.base) I c.get (findObj_own c.dict ff rfl (l.trans (by rw [hv]))) (xy rv hg) (q _ _ _ p rv)
end
section
variable {G:Gl} {A:Around} {μ:Mu} {σ:a0} {h:Heap}
theorem fT (x y:Nat) (v:AV) (fs:List (Nat×AV)):flook y (dg x v fs)=if y=x then some v else flook y fs:=by
 have c: ∀(e:Nat×AV) r,flook y (e::r)=if e.1=y then some e.2 else flook y r:=λ_ _=>rfl
 induction fs with
 |nil=>
  show flook y ((x,v):: [])=_
  rw [c]
  by_cases h:y=x
  ·rw [if_pos h.symm,if_pos h]
  ·rw [if_neg (Ne.symm h),if_neg h]
 |cons e r ih=>
  show flook y (if e.1=x then (x,v)::r else e::dg x v r)=_
  by_cases h:e.1=x
  ·rw [if_pos h,c,c]
   by_cases hy:y=x
   ·rw [if_pos hy.symm,if_pos hy]
   ·rw [if_neg (Ne.symm hy),if_neg hy,if_neg λq=>hy (q.symm.trans h)]
  ·rw [if_neg h,c,c,ih]
   by_cases hy:e.1=y
   ·rw [if_pos hy,if_pos hy,if_neg λq=>h (hy.trans q)]
   ·rw [if_neg hy,if_neg hy]
theorem oz (x:Nat) (v:AV) (fs:List (Nat×AV)): ∀y,y=x∨y∈fs.map (·.1)->y∈(dg x v fs).map (·.1):=by
 induction fs with
 |nil=>exact λy h=>h.elim (λe=>e▸List.mem_cons_self) λz=>nomatch z
 |cons e r ih=>
  intro y h
  show y∈(if e.1=x then (x,v)::r else e::dg x v r).map (·.1)
  by_cases q:e.1=x
  ·rw [if_pos q]
   exact h.elim (λe=>e▸List.mem_cons_self) λz=>(List.mem_cons.mp z).elim (λz=>(z.trans q)▸List.mem_cons_self) (List.mem_cons_of_mem _)
  ·rw [if_neg q]
   exact h.elim (λz=>List.mem_cons_of_mem _ (ih _ (.inl z))) λz=>(List.mem_cons.mp z).elim (λz=>z▸List.mem_cons_self) λz=>List.mem_cons_of_mem _ (ih _ (.inr z))
theorem sJ {m:Str->Option Value} {x:Nat} {v:AV} {u:Value} {fs:List (Nat×AV)} (w:PySem.Within m (fs.map λe=>jJ e.1)):PySem.Within (λy=>if y=jJ x then some u else m y) ((dg x v fs).map λe=>jJ e.1):=by
 have two: ∀l:List (Nat×AV),l.map (λe=>jJ e.1)=(l.map (·.1)).map jJ:=λl=>by rw [List.map_map];rfl
 rw [two] at w⊢
 intro y hy
 by_cases q:y=jJ x
 ·exact q▸List.mem_map_of_mem (oz x v fs x (.inl rfl))
 ·obtain ⟨z,h1,h2⟩:=List.mem_map.mp (w y λe=>hy ((if_neg q).trans e))
  exact h2▸List.mem_map_of_mem (oz x v fs z (.inr h1))
theorem jt (x:Nat) (v:AV) (fs:List (Nat×AV)):(dg x v fs).length≤fs.length+1:=by
 induction fs with
 |nil=>exact Nat.le_refl _
 |cons e r ih=>
  show (if e.1=x then (x,v)::r else e::dg x v r).length≤_
  by_cases q:e.1=x
  ·rw [if_pos q];exact Nat.le_succ _
  ·rw [if_neg q];exact Nat.succ_le_succ ih
theorem eF (K:dd G) {a V:AV} {x:Nat} {s:String} (hs:aN[x]?=some s) {va vv:Value} {P:a0->Prop} (H:ai G μ σ h) (ra:VR G μ a va) (rv:VR G μ V vv) (e:oB (fW a x V σ) P):
  xj G A (setAttr va (nm s) vv) μ h P:=by
 intro g d tk os Q E q
 refine eR ra e λr b hb e=> ?_
 obtain ⟨C,fs,hr,e⟩:=eN e
 obtain ⟨hf,p⟩:=bG e
 cases rp H hr hb (nm s) with
 |mk ca m od e1 e2 e3 e5 e4 I l=>
  cases Fm K hf.1 e1 hs with
  |mk c ff=>
   have X:=K.X.keeps H.base
   have ht:takerIn G.K ca (nm s)=some none:=by unfold takerIn;rw [ff];rfl
   refine set_plain (s:=⟨h,g,d,tk,os⟩) X I c.set (osa_open (s:=⟨h,g,d,tk+1,os⟩) X I c.over ht λb'=> ?_)
   obtain ⟨cd,hc,sd⟩:=any_some c.dict
   refine wpAny_bind (wpAny_pure (wpAny_bind (wpAny_bind (wpAny_loadPart e2 (wpAny_bind ((looks_clsIn X hc).here ?_))))))
   rw [sd]
   refine wpAny_pure (a:=some b.d) (wpAny_bind (wpAny_pure (wpAny_bind ?_)))
   refine wpAny_nsSet1 (s:=⟨h,g,d,tk+1,os⟩) e3 λh' hn ja=> ?_
   have W:=sJ (x:=x) (v:=V) (u:=vv) e5
   rw [mT hs] at W
   obtain ⟨oD,esD,epD,Q4,Vq,Vr⟩:=hn.count W
   rw [List.length_map] at Vr
   refine wpAny_bind (wpAny_lookBehind Q4 (by rw [Vq];exact pastItsLine_dict (by have:=hf.2;have:=jt x V fs;rw [sizeLine_eq];omega)) (wpAny_pure ?_))
   have d0:b.a≠b.d:=λz=>by
    obtain ⟨o,es,ep,z1,z2,_⟩:=e3
    rw [←z,e2] at z1
    exact nomatch (congrArg Obj.data (Option.some.inj z1)).trans z2
   have z:=Iq (o':= .inst C (dg x V fs)) H hr hb rfl (h':=h') (λy ob _ Vt z=>(ja.2 y Vt).trans z) ⟨_,(ja.2 _ d0).trans e2⟩ ⟨oD,Q4⟩
    ⟨ca,_,e1,(ja.2 _ d0).trans e2,hn,W,λy t hy=>by
     rw [fT]
     by_cases c:y=x
     ·rw [if_pos c,if_pos (congrArg nm (Option.some.inj (hy.symm.trans (c▸hs))))];exact ⟨_,rfl,rv⟩
     ·rw [if_neg c,if_neg λz=>c (iL hy hs z)]
      exact e4 y t hy⟩
   exact q _ _ _ _ p z.1 z.2
end
section
variable {G:Gl} {A:Around} {μ:Mu} {σ:a0} {h:Heap}
theorem kF {k v:AV} {p:AV×AV} {es ct:List (AV×AV)} (e:dput σ k v (p::es)=some ct):(cC σ p.1 k=some true/\(p.1,v)::es=ct)∨(cC σ p.1 k=some false/\ ∃y,dput σ k v es=some y/\p::y=ct):=by
 have e:(match (generalizing:=false) cC σ p.1 k with|some true=>some ((p.1,v)::es)|some false=>(dput σ k v es).map (p:: ·)|none=>none)=some ct:=e
 cases q:cC σ p.1 k with
 |none=>rw [q] at e;cases e
 |some c=>
  rw [q] at e
  cases c with
  |true=>exact .inl ⟨rfl,Option.some.inj e⟩
  |false=>exact .inr ⟨rfl,Option.map_eq_some_iff.mp e⟩
theorem xR {k:AV} {p:AV×AV} {es:List (AV×AV)} {c:Bool} (q:cC σ p.1 k=some c):dget σ k (p::es)=if c then some (some p.2) else dget σ k es:=by
 show (match (generalizing:=false) cC σ p.1 k with|some true=>some (some p.2)|some false=>dget σ k es|none=>none)=_
 rw [q]
 cases c<;>rfl
theorem rB {k v:AV} (es:List (AV×AV)): ∀{ct:List (AV×AV)},dput σ k v es=some ct-> ∃r,dget σ k es=some r:=by
 induction es with
 |nil=>exact λ_=>⟨none,rfl⟩
 |cons p es ih=>
  intro ct e
  rcases kF e with ⟨q,_⟩|⟨q,y,e,_⟩
  ·exact ⟨_,xR q⟩
  ·exact let ⟨r,h⟩:=ih e;⟨r,(xR q).trans h⟩
theorem sY {kv:FK×Value} {r:List (FK×Value)} {k:FK} {v:Value} (hn:kv.1∉r.map (·.1)):
  PySem.stored (kv::r) k v=if kv.1=k then (kv.1,v)::r else kv::PySem.stored r k v:=by
 unfold PySem.stored
 by_cases h:kv.1=k
 ·rw [if_pos h]
  simp only [List.any_cons,h,decide_true,Bool.true_or,if_true,List.map_cons]
  congr 1
  refine Eq.trans (List.map_congr_left λx hx=> ?_) (List.map_id r)
  have: ¬x.1=k:=λq=>hn (by rw [h,←q];exact List.mem_map_of_mem (f:=(·.1)) hx)
  simp [this]
 ·rw [if_neg h]
  simp only [List.any_cons,h,decide_false,Bool.false_or,List.map_cons,if_false]
  split<;>rfl
theorem xg {K V:AV} {k:FK} {v:Value} (hK:bK K=some k) (hV:VR G μ V v) {es:List (AV×AV)} {bq:List (FK×Value)} (A:ae (jC G μ) es bq): ∀{ct:List (AV×AV)},(bq.map (·.1)).Nodup->dput σ K V es=some ct->
  ae (jC G μ) ct (PySem.stored bq k v):=by
 induction A with
 |nil=>exact λ_ e=>Option.some.inj e▸ .cons ⟨hK,hV⟩ .nil
 |cons h t ih=>
  intro ct hn e
  have hn:=List.nodup_cons.mp hn
  rw [sY hn.1]
  rcases kF e with ⟨q,rfl⟩|⟨q,y,e2,rfl⟩
  ·rw [if_pos (of_decide_eq_true (fV h.1 hK q).symm)]
   exact .cons ⟨h.1,hV⟩ t
  ·rw [if_neg (of_decide_eq_false (fV h.1 hK q).symm)]
   exact .cons h (ih hn.2 e2)
theorem rl {x:List FK×Addr×Value} {r:List (List FK×Addr×Value)} {k:List FK} {a:Addr} {v:Value} (hn:x.1∉r.map (·.1)):
  storedH (x::r) k a v=if x.1=k then (x.1,x.2.1,v)::r else x::storedH r k a v:=by
 unfold storedH atKey
 by_cases h:x.1=k
 ·rw [if_pos h]
  simp only [List.find?_cons,h,decide_true,Option.map_some,Option.isSome_some,if_true,List.map_cons,putAt]
  congr 1
  refine Eq.trans (List.map_congr_left λy hy=> ?_) (List.map_id r)
  have: ¬y.1=k:=λq=>hn (by rw [h,←q];exact List.mem_map_of_mem (f:=(·.1)) hy)
  simp [this,putAt]
 ·rw [if_neg h]
  simp only [List.find?_cons,h,decide_false,List.map_cons,putAt,if_false]
  split<;>rfl
theorem zI {n:Nat} {xs:List AV} {k:List FK} {V:AV} {v:Value} {b:bu} (hn:σ.get n=some (.tup xs)) (hb:μ[n]?=some b) (hk:br xs=some k) (hV:VR G μ V v) {es:List (AV×AV)} {ys:List (List FK×Addr×Value)} (A:ae (dZ G μ σ) es ys): ∀{ct:List (AV×AV)},(ys.map (·.1)).Nodup->dput σ (.ref n) V es=some ct->
  ae (dZ G μ σ) ct (storedH ys k b.a v):=by
 induction A with
 |nil=>exact λ_ e=>Option.some.inj e▸ .cons ⟨n,b,xs,rfl,hb,hn,hk,rfl,hV⟩ .nil
 |cons h t ih=>
  intro ct hd e
  have hd:=List.nodup_cons.mp hd
  rw [rl hd.1]
  obtain ⟨m,c,zs,h1,h2,h3,h4,h5,h6⟩:=id h
  rcases kF e with ⟨q,rfl⟩|⟨q,y,e2,rfl⟩
  ·rw [if_pos (of_decide_eq_true (gY h3 hn h4 hk (h1▸q)).symm)]
   exact .cons ⟨m,c,zs,h1,h2,h3,h4,h5,hV⟩ t
  ·rw [if_neg (of_decide_eq_false (gY h3 hn h4 hk (h1▸q)).symm)]
   exact .cons h (ih hd.2 e2)
theorem wg {d:Nat} {o o':AO} (ho:σ.get d=some o) (sE:o.isTup=false):TupIn σ (σ.set d o'):=λn xs e=>by
 rw [a0.fj];exact e
 rintro rfl;rw [ho] at e;cases e;cases sE
theorem kG (aj:Array Value) (n:Nat) (f:Array Value->Array Value): ∃m,Obj.mapSeq f {cls:= .type "list",data:= .seq aj n}={cls:= .type "list",data:= .seq (f aj) m}:=by
 simp only [Obj.mapSeq]
 exact ⟨_,rfl⟩
theorem pL {prog:Program} {w:World} {E:Value->Shared->Prop} {s:Shared} {l:Addr} {items:Array Value} {k:Int} {t:Tok} {v:Value} {Q:Unit->Shared->Prop} (hp:s.heap.PlainList l items)
  (h0:0≤k) (Bq:k<2^63) (hn:k<items.size)
  (hQ: ∀h',h'.PlainList l (items.setIfInBounds k.toNat v)->Heap.SameBut l s.heap h'->Q () {s with heap:=h'}):
  wpAny (model prog w) A (setItem (.ref l) (.int k t) v) Q E s:=by
 obtain ⟨n,ho⟩:=hp
 obtain ⟨m,hm⟩:=kG items n (·.setIfInBounds k.toNat v)
 exact ki_setAt ho h0 Bq hn (hQ _ ⟨m,by rw [Heap.get?_update_self _ ho (by rw [hm];rfl),hm]⟩ (Heap.SameBut.update ..))
theorem EB (K:dd G) {n:Nat} (R:cy A n) {a i V:AV} {va vi vv:Value} {P:a0->Prop} (H:ai G μ σ h) (ra:VR G μ a va) (ri:VR G μ i vi) (rv:VR G μ V vv) (e:oB (gi a i V σ) P):
  xj G A (setItem va vi vv) μ h P:=by
 intro g d tk os Q E q
 refine eR ra e λr b hb e=> ?_
 obtain ⟨o,hr,e⟩:=eO e
 have fin: ∀{o':AO} {h':Heap} {tk:Nat},o.isTup=false->P (σ.set r o')->Heap.SameBut b.a h h'->(∃o,h'.get? b.a=some o)->dH G μ (σ.set r o') o' b h'->Q () ⟨h',g,d,tk,os⟩:=λht p hs la z=>have z:=setB H hr hb ht hs la z;q _ _ _ _ p z.1 z.2
 cases o with
 |list xs=>
  refine eI ri e λk t e=> ?_
  obtain ⟨hc,p⟩:=bG e
  obtain ⟨vs,l1,r1⟩:=H.obj hr hb
  have n1:xs.length=vs.size:=r1.length
  have hk:=of_decide_eq_true hc.2.2
  refine pL (s:=⟨h,g,d,tk,os⟩) l1 hc.1 (by exact Ai hk) (by omega) λh' hl ja=>fin rfl p ja ⟨_,hl.choose_spec⟩ ⟨_,hl, ?_⟩
  rw [Array.toList_setIfInBounds]
  exact r1.set rv _
 |dict es=>
  obtain ⟨JM,e⟩:=bG e
  obtain ⟨ct,he,p⟩:=m6 e
  obtain ⟨w3,z⟩:=bG (P:=(· =ct)) (show oB (pT σ i V es) _ from hO he)
  have he:dput σ i V es=some ct:=let ⟨_,z1,z2⟩:=eP z;z2▸z1
  obtain ⟨r0,JN⟩:=rB es he
  cases uZ H hr hb ri ((if_pos w3).trans JN) with
  |flat k bq h1 h2 D _ A2=>
   exact wpAny_setItem_pairs (s:=⟨h,g,d,tk,os⟩) h2 D (λh' hD ja=>fin rfl p ja ⟨_,hD.choose_spec.choose_spec.choose_spec.1⟩
    (.inl ⟨_,hD,xg h1 rv A2 D.choose_spec.choose_spec.choose_spec.2.2.2.2.2 he⟩)) (by rw [←A2.length];exact bj JM)
  |tup m xs k c ys q1 q2 q3 q4 q5 T D _ A2=>
   rw [q1] at he
   rw [←q2]
   refine wpAny_setItem_heap (s:=⟨h,g,d,tk,os⟩) (knd:=dA G) R.xt T D (λh' hD ja=> ?_) (by rw [←A2.length];exact bj JM)
   obtain ⟨ob,ens,ep,y1,y2,y3,y4,_,y6⟩:=hD
   exact fin rfl p ja ⟨_,y1⟩ (.inr ⟨ob,ens,ep,_,y1,y2,y3,y4,(zI q4 q3 q5 rv A2 D.choose_spec.choose_spec.choose_spec.2.2.2.2.2 he).imp λ_ _ z=>z.move (List.prefix_refl _) (wg hr rfl),y6⟩)
 |_=>exact e.elim
end
section
variable {G:Gl} {A:Around} {μ:Mu} {σ:a0} {h:Heap}
noncomputable def Iy {β:Type} (lo:Nat) (hi:Option Nat) (xs:List β):List β:=match hi with
 |some h=>(xs.take h).drop lo
 |none=>xs.drop lo
theorem Ao (l:List Value) (lo:Nat) (hi:Option Nat) (bN:Option Int) (e:bN=some (lo:Int)∨(bN=none/\lo=0)):
  kms_pick l bN (hi.map λn=>((n:Nat):Int))=Iy lo hi l:=by
 have e1:kms_lo bN l.length=min lo l.length:=by
  rcases e with rfl|⟨rfl,rfl⟩
  ·unfold kms_lo
   have: ¬((lo:Nat):Int)<0:=by exact vE
   simp [this]
  ·simp [kms_lo]
 unfold kms_pick
 rw [e1]
 cases hi with
 |none=>
  show (l.drop (min lo l.length)).take (l.length-min lo l.length)=l.drop lo
  rw [List.take_of_length_le (by rw [List.length_drop];exact Nat.le_refl _)]
  by_cases q:lo≤l.length
  ·rw [Nat.min_eq_left q]
  ·rw [Nat.min_eq_right (show l.length≤lo by exact o7 q),List.drop_of_length_le (Nat.le_refl _),List.drop_of_length_le (show l.length≤lo by exact o7 q)]
 |some n=>
  have e2:kms_hi ((some n:Option Nat).map λn=>((n:Nat):Int)) l.length=min n l.length:=by
   have: ¬((n:Nat):Int)<0:=by exact vE
   simp [kms_hi,this]
  rw [e2]
  show _=(l.take n).drop lo
  rw [List.drop_take]
  by_cases q:lo≤l.length
  ·rw [Nat.min_eq_left q]
   by_cases q2:n≤l.length
   ·rw [Nat.min_eq_left q2]
   ·rw [Nat.min_eq_right (show l.length≤n by exact o7 q2)]
    rw [List.take_of_length_le (by rw [List.length_drop];exact Nat.le_refl _),List.take_of_length_le (by rw [List.length_drop];exact Sk q2)]
  ·rw [Nat.min_eq_right (show l.length≤lo by exact o7 q),List.drop_of_length_le (Nat.le_refl _),List.drop_of_length_le (show l.length≤lo by exact o7 q)]
   simp
theorem ae.cut {β:Type} {R:AV->β->Prop} {l:List AV} {m:List β} (h:ae R l m) (lo:Nat) (hi:Option Nat):ae R (cut lo hi l) (Iy lo hi m):=by
 cases hi with
 |none=>exact h.drop lo
 |some n=>exact (h.take n).drop lo
noncomputable abbrev IQ (h:Heap) (vl vu vs:Value) (items:Array Value):Heap:=(h.push {cls:= .type "slice",data:= .fields #[vl,vu,vs]}).push {cls:= .type "list",data:= .seq items}
inductive BU (G:Gl) (μ:Mu) (h:Heap) (K:AV->a0->Prop) (va vl vu vs:Value) (lo hi st:Option Int):Prop
 |mk (l:Addr) (items:Array Value) (e:Value.ref l=va) (L:h.IsList l items) (z:items.size≤sizeLine)
   (q: ∀(g:Array GenState) (d:Drawn) (tk:Nat) (os:OsState) (Q:Value->Shared->Prop),KQ G K μ h g d os Q->Q (.ref (h.objs.size+1)) ⟨IQ h vl vu vs (slicePick items lo hi st),g,d,tk,os⟩)
theorem yi {K:AV->a0->Prop} {vl vu vs:Value} {items:Array Value} {xs:List AV} (H:ai G μ σ h) (k:K (.ref σ.n) (σ.new (.list xs))) (r:ae (VR G μ) xs items.toList) {g:Array GenState} {d:Drawn} {tk:Nat} {os:OsState} {Q:Value->Shared->Prop} (q:KQ G K μ h g d os Q):
  Q (.ref (h.objs.size+1)) ⟨IQ h vl vu vs items,g,d,tk,os⟩:=by
 have hx:(IQ h vl vu vs items).get? (h.objs.size+1)=some {cls:= .type "list",data:= .seq items}:=by
  have:=Heap.get?_push_size (h.push {cls:= .type "slice",data:= .fields #[vl,vu,vs]}) (o:={cls:= .type "list",data:= .seq items}) rfl
  rwa [Heap.size_push] at this
 exact q.gE H k (λx ob q=>Heap.get?_push_of_some _ (Heap.get?_push_of_some _ q)) (Heap.get?_none_of_le (Nat.le_succ _)) ⟨_,hx⟩ ⟨items,⟨0,hx⟩,r.imp λ_ _ z=>z.mono ⟨_,rfl⟩⟩
theorem Oa (X:dd G) {K:AV->a0->Prop} {a:AV} {va vl vu:Value} {lo:Nat} {hi:Option Nat} {bN dR:Option Int} (H:ai G μ σ h) (ra:VR G μ a va) (e:wV (CK a lo hi σ) K)
  (el:bN=some (lo:Int)∨(bN=none/\lo=0)) (eu:dR=hi.map λn=>((n:Nat):Int)):BU G μ h K va vl vu .none bN dR none:=by
 have fin: ∀{l:Addr} {items:Array Value} {xs:List AV},h.IsList l items->ae (VR G μ) xs items.toList->xs.length≤aw->K (.ref σ.n) (σ.new (.list (cut lo hi xs)))->BU G μ h K (.ref l) vl vu .none bN dR none:=
  λ{l items xs} hl hr hc k=>⟨l,items,rfl,hl,(show xs.length=items.size from hr.length)▸bj hc,λg d tk os Q q=>yi H k (by rw [eu,kms_pick_eq,Ao _ _ _ _ el];exact hr.cut lo hi) q⟩
 cases a with
 |ref r=>
  obtain ⟨b,hb,rfl⟩:=ra
  obtain ⟨xs,vs,_,l1,r1,_,e⟩:=eL H hb e
  obtain ⟨hc,k⟩:=bG e
  exact fin l1.isList r1 hc k
 |bg=>
  cases ra
  obtain ⟨hc,k⟩:=bG e
  obtain ⟨vs,⟨o,q1,q2⟩,r1⟩:=X.bg
  rw [←H.bg] at r1
  exact fin ⟨o,H.base _ _ q1,q2⟩ (r1.imp λ_ _ z=>qU z) (Nat.le_trans (Nat.le_of_eq (List.length_map ..)) hc) k
 |_=>exact e.elim
theorem Ih {K:AV->a0->Prop} {a:AV} {va vl vu vs:Value} (H:ai G μ σ h) (ra:VR G μ a va) (e:wV (Aq a σ) K):BU G μ h K va vl vu vs none none (some (-1)):=by
 refine eR ra e λr b hb e=> ?_
 obtain ⟨xs,ws,_,l1,r1,n1,e⟩:=eL H hb e
 obtain ⟨hc,k⟩:=bG e
 exact ⟨_,ws,rfl,l1.isList,n1▸bj hc,λg d tk os Q q=>yi H k (by rw [krv_pick];exact r1.reverse) q⟩
end
section
variable {G:Gl} {A:Around} {μ:Mu} {σ:a0} {h:Heap}
theorem e8 {n:Array UInt8} {u:Tok} {T:String} (d0:(Value.type "bytes"==Value.type T)=false) (Vu:typeOf (.type T)=pure (.type "type")) (JO:isSubtype (.type "bytes") (.type T)=pure false):
  Meets (Builtin.«isinstance» ⟨[.bytes n u, .type T], []⟩) (λ_ R s=>R (.ok (.ret (.bool false))) {s with toks:=s.toks+1}):=
 λ_ _ _ _ s hs=>by
  obtain ⟨h,g,d,t,os⟩:=s
  exact isinstance_outer (isinstance_nested_false_bytes d0 Vu JO hs)
theorem rQ {x:AV} {xs:List AV} {l:List Nat} (e:allInts (x::xs)=some l): ∃i:Int,x= .int i/\(0≤i/\i<256)/\ ∃l',allInts xs=some l'/\i.toNat::l'=l:=by
 cases x with
 |int i=>
  obtain ⟨hi,z⟩:=bG (P:=(· =l)) (show oB (if 0≤i/\i<256 then (allInts xs).map (i.toNat:: ·) else none) _ from hO e)
  obtain ⟨l',h1,h2⟩:=m6 z
  exact ⟨i,rfl,hi,l',h1,h2⟩
 |_=>cases e
theorem sW {xs:List AV} {vs:List Value} (A:ae (VR G μ) xs vs): ∀{l:List Nat},allInts xs=some l->IntsAre vs (l.map λn=>((n:Nat):Int))/\ ∀n∈l,n<256:=by
 induction A with
 |nil=>exact λe=>Option.some.inj e▸⟨.nil,λn hn=>absurd hn List.not_mem_nil⟩
 |cons hx t ih=>
  intro l e
  obtain ⟨i,rfl,hi,l',h1,rfl⟩:=rQ e
  obtain ⟨u,rfl⟩:=hx
  have z:=ih h1
  refine ⟨?_,λn hn=>(List.mem_cons.mp hn).elim (λq=>by exact QO hi q) (z.2 n)⟩
  rw [List.map_cons,Int.toNat_of_nonneg hi.1]
  exact .cons i u z.1
theorem qq (l:List Nat) (h: ∀n∈l,n<256):(byteArr (l.map λn=>((n:Nat):Int))).toList.map UInt8.toNat=l:=by
 unfold byteArr
 rw [List.map_map]
 show ((l.map _).toArray).toList.map _=_
 rw [List.map_map]
 refine (List.map_congr_left λn hn=> ?_).trans (List.map_id l)
 have:=h n hn
 simp [Function.comp]
 exact Qg this
theorem pK {prog:Program} {w:World} {d:Addr} (hd:(d==sysModules)=false):
  MeetsIn prog w (Builtin.«dict.__len__» ⟨[.ref d], []⟩) (λ_ R s=> ∃ob es ep,s.heap.get? d=some ob/\ob.ExactDict/\ob.data= .dict es ep/\R (.ok (.ret (.int es.size s.toks))) {s with toks:=s.toks+1}):=
 .of_wp λA R s ⟨ob,es,ep,ho,hx,w8,h⟩=>by
  show wpAny _ _ (dictSize d>>=_) _ _ s
  unfold dictSize
  refine wpAny_bind (wpAny_bind (wpAny_dictEntries ho w8 (wpAny_pure ?_)))
  show wpAny _ _ (Builtin.Dict.pendingCount d>>=_) _ _ s
  refine wpAny_bind (wpAny_pendingCount_other hd ?_)
  refine wpAny_ret_mkInt ?_
  rw [Nat.add_zero];exact h
theorem oj {prog:Program} {w:World} {A:Around} {E:Value->Shared->Prop} {s:Shared} {d:Addr} {ob:Obj} {es:Array DictEntry} {ep:Nat} {Q:Value->Shared->Prop} (hd:(d==sysModules)=false) (ho:s.heap.get? d=some ob) (hx:ob.ExactDict) (he:ob.data= .dict es ep)
  (Bq:(es.size:Int)<2^63) (h:Q (.int es.size (s.toks+1)) {s with toks:=s.toks+1+1}):wpAny (model prog w) A (call (.builtin "len") [.ref d]) Q E s:=by
 have hT:s.TypeIs (.ref d) "dict":=⟨ob,ho,hx.1⟩
 exact call_len_slot hT PySem.F.slot_dict_len (λ_ q=>call_meetsIn PySem.F.slot_dict_len hT PySem.F.entry_dict_len (PySem.F.args_dict_len_1 _) (pK hd) ⟨ob,es,ep,ho,hx,he,q⟩) (by exact vE) (by exact RY Bq) h
theorem mm (H:ai G μ σ h) {x:Nat} {b:bu} {es:List (AV×AV)} (hx:σ.get x=some (.dict es)) (hb:μ[x]?=some b):
  ∃ob ens ep,h.get? b.a=some ob/\ob.ExactDict/\ob.data= .dict ens ep/\ens.size=es.length:=by
 rcases H.obj hx hb with ⟨bq,⟨ob,ens,ep,y1,y2,y3,y4,y5,y6⟩,ha⟩|⟨ob,ens,ep,ys,y1,y2,y3,y4,y5,y6⟩
 ·exact ⟨ob,ens,ep,y1,y2,y3,y5.length.trans ha.length.symm⟩
 ·exact ⟨ob,ens,ep,y1,y2,y3,(congrArg List.length y4).trans ((List.length_map ..).trans y5.length.symm)⟩
inductive bX {α:Type} (P:Nat->α->Prop):List (Nat×α)->Prop
 |nil:bX P []
 |cons {x:Nat} {a:α} {r:List (Nat×α)} (h:P x a) (t:bX P r):bX P ((x,a)::r)
theorem bX.at {α:Type} {P:Nat->α->Prop} {l:List (Nat×α)} (A:bX P l) {x:Nat} {a:α}:l.lookup x=some a->P x a:=by
 induction A with
 |nil=>exact λe=>nomatch e
 | @cons y b r h t ih=>
  intro e
  rw [List.lookup_cons] at e
  cases q:x==y with
  |true=>
   rw [q] at e
   have z:x=y:=beq_iff_eq.mp q
   exact z▸Option.some.inj e▸h
  |false=>rw [q] at e;exact ih e
theorem e1 {α:Type} {P:α->Prop} {as:List AV} {vs:List Value} {f:AV->Option α} {M:List Value->Prop} (r:ae (VR G μ) as vs) (e:oB (on1 as f) P) (q: ∀a v,VR G μ a v->oB (f a) P->M [v]):M vs:=by
 cases r with
 |nil=>exact e.elim
 |cons r t=>cases t with
  |nil=>exact q _ _ r e
  |cons _ _=>exact e.elim
theorem e2 {α:Type} {P:α->Prop} {as:List AV} {vs:List Value} {f:AV->AV->Option α} {M:List Value->Prop} (r:ae (VR G μ) as vs) (e:oB (tE as f) P) (q: ∀a v b w,VR G μ a v->VR G μ b w->oB (f a b) P->M [v,w]):M vs:=by
 cases r with
 |nil=>exact e.elim
 |cons r t=>exact e1 (M:=λvs=>M (_::vs)) t e λb w r2 e=>q _ _ _ _ r r2 e
theorem An {α:Type} {P:α->Prop} {c:Prop} [Decidable c] {x y:Option α} (e:oB (if c then x else y) P):(c/\oB x P)∨(¬c/\oB y P):=by
 by_cases h:c
 ·exact .inl ⟨h,by rw [if_pos h] at e;exact e⟩
 ·exact .inr ⟨h,by rw [if_neg h] at e;exact e⟩
section
variable {n:Nat} {K:AV->a0->Prop} {a b:AV} {v w:Value}
theorem Ir (H:ai G μ σ h) (r:VR G μ a v) (e:wV (match (generalizing:=false) a with| .chr c=>some (.int (c:Nat),σ)|_=>none) K):bU G A (call (.builtin "ord") [v]) μ h K:=by
 cases a with
 |chr c=>exact λg d tk os Q E q=>let ⟨t,z⟩:=r;z▸PySem.P.ord_of_char (q.same H e (cm _ _))
 |_=>exact e.elim
theorem EA {xs:List AV} {vs:Array Value} {b:bu} (R:cy A n) (H:ai G μ σ h) (l1:h.IsList b.a vs) (r1:ae (VR G μ) xs vs.toList) (e:wV (match allInts xs with|some l=>if l.length≤aw then some (.bytes l,σ) else none|none=>none) K):bU G A (call (.type "bytes") [.ref b.a]) μ h K:=by
 intro g d tk os Q E q
 cases hl:allInts xs with
 |none=>rw [hl] at e;exact e.elim
 |some l=>
  rw [hl] at e
  obtain ⟨hc,k⟩:=bG e
  obtain ⟨hi,dN⟩:=sW r1 hl
  refine call_bytes_ints (s:=⟨h,g,d,tk,os⟩) (vs:=vs.toList) (by rw [Array.toArray_toList];exact l1) hi (λn hn=> ?_) (by rw [hi.length,List.length_map];exact bj hc) R.handled λh' t k' hk=>q _ _ μ h' k' σ k ⟨_,t,rfl,qq l dN⟩ (.grown _ hk) (H.grown hk)
  obtain ⟨m,hm,rfl⟩:=List.mem_map.mp hn
  have:=dN m hm
  exact GL this
theorem IP (X:dd G) (H:ai G μ σ h) (r1:VR G μ a v) (r2:VR G μ b w) (e:wV (match (generalizing:=false) b with
  | .gJ t=>match (generalizing:=false) a with
   | .bool _=>if t=24 then some (.bool true,σ) else none
   | .int _=>if t=24 then some (.bool false,σ) else if t=26 then some (.bool true,σ) else none
   | .bytes _=>if t=24 then some (.bool false,σ) else if t=26 then some (.bool false,σ) else if t=5 then some (.bool true,σ) else none
   |_=>none
  |_=>none) K):bU G A (call (.builtin "isinstance") [v,w]) μ h K:=by
 intro g d tk os Q E q
 cases b with
 |gJ t=>
  have isi: ∀{T:String} {c:Nat},t=c->mi c=some (.type T)->w= .type T:=λ{T c} q eT=>Option.some.inj ((show globV G.K t=some w from r2).symm.trans (q▸X.blt _ _ eT))
  cases a with
  |bool x=>
   obtain ⟨h1,k⟩:=bG e
   rw [isi h1 rfl,show v= .bool x from r1]
   exact call_isinstance (isinstance_true PySem.F.isi_meta_bool PySem.F.sub_bool_bool) ⟨rfl,q.same H k rfl⟩
  |int x=>
   obtain ⟨u,rfl⟩:=r1
   rcases An e with ⟨h1,k⟩|⟨_,e⟩
   ·rw [isi h1 rfl];exact call_isinstance (isinstance_false_int (by decide) PySem.F.isi_meta_bool PySem.F.sub_int_bool) (q.same H k rfl)
   ·obtain ⟨h2,k⟩:=bG e
    rw [isi h2 rfl];exact call_isinstance (isinstance_true PySem.F.isi_meta_int PySem.F.sub_int_int) ⟨rfl,q.same H k rfl⟩
  |bytes x=>
   obtain ⟨b,u,rfl,_⟩:=r1
   rcases An e with ⟨h1,k⟩|⟨_,e⟩
   ·rw [isi h1 rfl];exact call_isinstance (e8 (by decide) PySem.F.isi_meta_bool PySem.F.sub_bytes_bool) (q.same H k rfl)
   ·rcases An e with ⟨h2,k⟩|⟨_,e⟩
    ·rw [isi h2 rfl];exact call_isinstance (e8 (by decide) PySem.F.isi_meta_int PySem.F.sub_bytes_int) (q.same H k rfl)
    ·obtain ⟨h3,k⟩:=bG e
     rw [isi h3 rfl];exact call_isinstance (isinstance_true PySem.F.isi_meta_bytes PySem.F.sub_bytes_bytes) ⟨rfl,q.same H k rfl⟩
  |_=>exact e.elim
 |_=>exact e.elim
theorem Gf (H:ai G μ σ h) (r:VR G μ a v) (e:wV (match (generalizing:=false) a with| .int i=>some (.int i,σ)| .bool b=>some (.int (if b then 1 else 0),σ)|_=>none) K):bU G A (call (.type "int") [v]) μ h K:=by
 cases a with
 |int i=>exact λg d tk os Q E q=>let ⟨t,z⟩:=r;z▸call_int_int (q.same H e (cm _ _))
 |bool b=>exact λg d tk os Q E q=>(show v= .bool b from r)▸call_int_bool (q.same H e (cm _ _))
 |_=>exact e.elim
theorem Hs (X:dd G) (H:ai G μ σ h) (r:VR G μ a v) (e:wV (match (generalizing:=false) a with
  | .bytes l=>if l.length≤aw then some (.int (l.length:Nat),σ) else none
  | .ref r=>bA σ r λo=>match o with
   | .list xs=>if xs.length≤aw then some (.int (xs.length:Nat),σ) else none
   | .dict es=>if es.length≤aw then some (.int (es.length:Nat),σ) else none
   |_=>none
  |_=>none) K):bU G A (call (.builtin "len") [v]) μ h K:=by
 intro g d tk os Q E q
 cases a with
 |bytes l=>
  obtain ⟨b,t,rfl,rfl⟩:=r
  obtain ⟨hc,k⟩:=bG e
  rw [List.length_map,Array.length_toList] at hc k
  exact PySem.W.len_bytes (by unfold aw at hc;exact OZ hc) (q.same H k (cm _ _))
 |ref r=>
  obtain ⟨b,hb,rfl⟩:=r
  obtain ⟨o,hr,e⟩:=eO e
  cases o with
  |list xs=>
   obtain ⟨hc,k⟩:=bG e
   obtain ⟨vs,l1,r1⟩:=H.obj hr hb
   have n1:xs.length=vs.size:=r1.length
   rw [n1] at hc k
   exact PySem.Calls.call_len_list (s:=⟨h,g,d,tk,os⟩) l1.isList (by unfold aw at hc;exact ID hc) (q.same H k (cm _ _))
  |dict es=>
   obtain ⟨hc,k⟩:=bG e
   obtain ⟨ob,ens,ep,y1,y2,y3,y4⟩:=mm H hr hb
   rw [←y4] at hc k
   exact oj (s:=⟨h,g,d,tk,os⟩) (H.l7 X (List.mem_of_getElem? hb)) y1 y2 y3 (by unfold aw at hc;exact ID hc) (q.same H k (cm _ _))
  |_=>exact e.elim
 |_=>exact e.elim
theorem Em (H:ai G μ σ h) (r:VR G μ a v) (e:wV (dY a λr=>bA σ r λo=>fP o λxs=>if xs.length≤aw then some (.ref σ.n,σ.new (.list xs)) else none) K):bU G A (call (.type "list") [v]) μ h K:=by
 intro g d tk os Q E q
 refine eR r e λr b hb e=> ?_
 obtain ⟨xs,vs,hr,⟨nn,q1⟩,r1,n1,e⟩:=eL H hb e
 obtain ⟨hc,k⟩:=bG e
 exact call_list_seq (s:=⟨h,g,d,tk,os⟩) b.a (.inl rfl) q1 rfl rfl (λh' c' hk hD=>q.gE H k hk (Heap.get?_none_of_le (Nat.le_refl _)) ⟨_,hD⟩ ⟨vs,⟨_,hD⟩,r1.imp λ_ _ z=>z.mono ⟨_,rfl⟩⟩) (by rw [←n1];exact bj hc)
theorem I3 (R:cy A n) (H:ai G μ σ h) (r1:VR G μ a v) (r2:VR G μ b w) (e:wV (bV a λx=>bV b λy=>some (.int (if y<x then y else x),σ)) K):bU G A (call (.builtin "min") [v,w]) μ h K:=by
 intro g d tk os Q E q
 refine eI r1 e λx t e=>eI r2 e λy u e=>min_two_ints R.handled λh' aH hk=>q _ _ μ h' aH σ e ?_ (.grown _ hk) (H.grown hk)
 by_cases c:y<x
 ·rw [if_pos c,if_pos c];exact cm _ _
 ·rw [if_neg c,if_neg c];exact cm _ _
end
end
end Mine.Internal
namespace Mine.Internal
open PySem PySem.W PySem.Calls PyProof.Rows
open PySem.Sem (wp)
noncomputable def my:List String:= ["bytearray.__contains__","bytearray.__mod__","bytearray.__rmod__","_struct.pack_into.held","bytearray.find.held"]++Builtin.Bytes.decodersThatHold
noncomputable def Dec:Code->Bool
 | .builtin id _=>my.contains id
 |_=>false
noncomputable def ND (l:List (Code×Pos)):Prop:= ∀x∈l,Dec x.1=false
noncomputable def ag {α:Type} (M:Model) (A:Around) (t:Sem α) (Q:α->Shared->Prop) (s:Shared):Prop:=
 ∀Γ p,Γ.In A->Dec Γ.code=false->ND Γ.below->wp M Γ t (λa _ s'=>Q a s') (λ_ _ _=>False) p s
noncomputable def OV (R:Flow->Shared->Prop) (r:Result) (s':Shared):Prop:=match r with
 | .ok f=>R f s'
 | .error _=>False
noncomputable def aT (M:Model) (A:Around) (c:Code) (R:Flow->Shared->Prop) (s:Shared):Prop:=
 ∀Γ p,Γ.code=c->Γ.Below A->ND Γ.below->wpCode M Γ (OV R) p s
noncomputable abbrev ow:Value->Shared->Prop:=λ_ _=>False
section
variable {α β:Type} {M:Model} {A:Around} {s:Shared}
theorem ao {t:Sem α} {Q:α->Shared->Prop} (h:wpAny M A t Q ow s):ag M A t Q s:=λΓ p hΓ _ _=>h Γ p hΓ
theorem qr {c:Code} {R:Flow->Shared->Prop} (h:codeAny M A c (OV R) s):aT M A c R s:=λΓ p hc hΓ _=>h Γ p hc hΓ
theorem ah {a:α} {Q:α->Shared->Prop} (h:Q a s):ag M A (pure a) Q s:=λ_ _ _ _ _=>h
theorem ak {t:Sem α} {Q Q':α->Shared->Prop} (h:ag M A t Q s) (hQ: ∀a s,Q a s->Q' a s):ag M A t Q' s:=
 λΓ p hΓ h1 h2=>Sem.wp_mono M Γ t (λa _ s=>hQ a s) (λ_ _ _ e=>e) p s (h Γ p hΓ h1 h2)
theorem a8 {m:Sem α} {f:α->Sem β} {Q:β->Shared->Prop} (h:ag M A m (λa s'=>ag M A (f a) Q s') s):ag M A (m>>=f) Q s:=λΓ p hΓ h1 h2=>by
 rw [Sem.wp_bind']
 exact Sem.wp_mono M Γ m (λa p' s' h'=>h' Γ p' hΓ h1 h2) (λ_ _ _ h'=>h') p s (h Γ p hΓ h1 h2)
theorem cD {m:Sem α} {k:Value->Sem Unit} {Q:α->Shared->Prop} (h:ag M A m Q s):ag M A (m.onRaise k) Q s:=λΓ p hΓ h1 h2=>by
 rw [Sem.wp_onRaise]
 exact Sem.wp_mono M Γ m (λ_ _ _ h'=>h') (λe p' s' h'=>h'.elim) p s (h Γ p hΓ h1 h2)
theorem te {m:Sem α} {Q:Except Value α->Shared->Prop} (h:ag M A m (λa=>Q (.ok a)) s):ag M A m.attempt Q s:=λΓ p hΓ h1 h2=>by
 rw [Sem.wp_attempt]
 exact Sem.wp_mono M Γ m (λ_ _ _ h'=>h') (λe p' s' h'=>h'.elim) p s (h Γ p hΓ h1 h2)
theorem aq {vs:List Value} {m:Sem α} {Q:α->Shared->Prop} (h:ag M A m Q s):ag M A (holding vs m) Q s:=λΓ p hΓ h1 h2=>by rw [Sem.wp_holding];exact h Γ p hΓ h1 h2
theorem iB {vs:List Value} {m:Sem Value} {Q:Value->Shared->Prop} (h:ag M A m Q s):ag M A (operate vs m) Q s:=λΓ p hΓ h1 h2=>by rw [Sem.wp_operate];exact h Γ p hΓ h1 h2
theorem lO {vs keep:List Value} {Q:Unit->Shared->Prop} (h:Q () s):ag M A (release vs keep) Q s:=λΓ p hΓ h1 h2=>by rw [Sem.wp_release];exact h
theorem au {pos:Pos} {Q:Unit->Shared->Prop} (h:Q () s):ag M A (standAt pos) Q s:=λ_ _ _ _ _=>h
theorem oQ {Q:Unit->Shared->Prop} (h:Q () s):ag M A point Q s:=λ_ _ _ _ _=>h
theorem gH {tag:String} {Q:Unit->Shared->Prop} (h:Q () s):ag M A (rule tag) Q s:=λ_ _ _ _ _=>h
theorem b8 {m:Sem α} {a:α} {Q:α->Shared->Prop} (e:m=pure a) (h:Q a s):ag M A m Q s:=by rw [e];exact ah h
theorem bD {m m':Sem α} {Q:α->Shared->Prop} (e:m=m') (h:ag M A m' Q s):ag M A m Q s:=by rw [e];exact h
theorem sZ {c:Prop} [Decidable c] {pos:Pos} {k:PUnit->Sem α} {Q:α->Shared->Prop} (h:ag M A (k ()) Q s):ag M A (if c then (standAt pos>>=k) else k ()) Q s:=by
 split
 ·exact a8 (au h)
 ·exact h
theorem mU {c:Code} {R R':Flow->Shared->Prop} (h:aT M A c R s) (hR: ∀r s,R r s->R' r s):aT M A c R' s:=
 λΓ p hc hΓ hn=>wpCode_mono (λr s=>by cases r<;>first|exact id|exact hR _ _) (h Γ p hc hΓ hn)
theorem rX {Γ:Ctx} {c:Code} {h:Option Value} {p:Pos} (h1:Dec Γ.code=false) (h2:ND Γ.below):ND (Γ.enter c h p).below:=λx hx=>by
 rcases List.mem_cons.mp hx with rfl|hx
 ·exact h1
 ·exact h2 x hx
theorem u4 {c:Code} {h:Option Value} {Q:Flow->Shared->Prop} (hc:aT M (A.mark h) c Q s) (Vv:h≠some byPass:=by intro x;cases x):ag M A (run c h) Q s:=
 λΓ p hΓ h1 h2=>by
  rw [Sem.wp_run]
  exact wpCode_mono (λr s'=>by cases r<;>exact id) (hc _ p rfl (hΓ.enter c h p Vv) (rX h1 h2))
theorem mM {c:Code} {env:Env} {Q:Flow->Shared->Prop} (hc:aT M A c Q s):ag M A (runOwn c env) Q s:=by
 unfold runOwn
 exact cD (u4 (h:=none) hc)
noncomputable def zr (Q:Value->Shared->Prop) (f:Flow) (s':Shared):Prop:=match f with
 | .ret v=>Q v s'
 |_=>False
theorem qk {c:Code} {Q:Value->Shared->Prop} (hc:aT M A c (zr Q) s):ag M A (runValue c) Q s:=
 λΓ p hΓ h1 h2=>by
  rw [Sem.wp_runValue]
  refine wpCode_mono (λr s' z=> ?_) (hc _ p rfl (hΓ.enter c none p (by intro x;cases x)) (rX h1 h2))
  rcases r with e|(v|_|_|_)<;>exact z
theorem eh {f:Value} {pos:List Value} {kw:List (Str×Value)} {Q:Value->Shared->Prop} (hc:aT M A (.call f ⟨pos,kw⟩) (zr Q) s):ag M A (call f pos kw) Q s:=qk hc
noncomputable def AD (M:Model) (A:Around) (R:Flow->Shared->Prop) (fin:Fin) (s':Shared):Prop:=match fin with
 | .done f=>R f s'
 | .again c'=>c'.quiet=true/\aT M A c' R s'
theorem aX {c:Code} {R:Flow->Shared->Prop} (hd:Dec c=false) (h:ag M (A.under c) (M.den c) (AD M A R) s):aT M A c R s:=λΓ p hc hΓ hn=>by
 rw [wpCode_iff_wp,hc]
 refine Sem.wp_mono M Γ _ (λfin p' s' h'=> ?_) (λ_ _ _ h'=>h'.elim) p s (h Γ p (hc▸hΓ.in) (by rw [hc];exact hd) hn)
 cases fin with
 |done f=>exact h'
 |again c'=>exact ⟨h'.1,h'.2 (Γ.goto c') p' rfl (hΓ.goto c') hn⟩
end
section
variable {M:Model} {A:Around} {s:Shared} {env:Env}
theorem jA {Q:Flow->Shared->Prop} (h:Q .next s):ag M A (execs [] env) Q s:=λ_ _ _ _ _=>h
theorem sU {st rest} {Q:Flow->Shared->Prop} (h:ag M A (exec st env) (λf s'=>match f with| .next=>ag M A (execs rest env) Q s'|f=>Q f s') s):ag M A (execs (st::rest) env) Q s:=by
 refine bD (execs_cons ..) (a8 (ak h λf s' h'=> ?_))
 cases f<;>first|exact h'|exact ah h'
theorem IM {l op r pos} {Q:Value->Shared->Prop} (h:ag M A (eval l env) (λa s₁=>ag M A (eval r env) (λb s₂=>ag M A (binaryOp op a b) Q s₂) s₁) s):ag M A (eval (.BinOp l op r pos) env) Q s:=
 bD (eval_BinOp ..) (a8 (ak h λa s₁ h₁=>a8 (aq (ak h₁ λb s₂ h₂=>a8 (au (iB h₂))))))
theorem AY {l op r pos} {Q:Value->Shared->Prop} (hm:behindInMarks op r=false) (h:ag M A (eval l env) (λa s₁=>ag M A (eval r env) (λb s₂=>ag M A (compareOp op a b) Q s₂) s₁) s):ag M A (eval (.Compare l [op] [r] pos) env) Q s:=
 bD (eval_Compare1 ..) (a8 (ak h λa s₁ h₁=>a8 (aq (by rw [markedBehindIn_of_false hm];exact ak h₁ λb s₂ h₂=>a8 (au (iB h₂))))))
theorem HF {test body orelse:Expr} {pos:Pos} {Q:Value->Shared->Prop} (h:ag M A (isTrue test env (eval test env)) (λb s₁=>if b then ag M A (eval body env) Q s₁ else ag M A (eval orelse env) Q s₁) s):ag M A (eval (.IfExp test body orelse pos) env) Q s:=by
 refine bD (arm_eval_IfExp ..) (a8 (ak h λb s₁ h₁=> ?_))
 cases b<;>exact h₁
theorem QI {x:Expr} {pos:Pos} {Q:Value->Shared->Prop} (h:ag M A (eval x env) (λv s₁=>ag M A (unaryOp .Not v) Q s₁) s):ag M A (eval (.UnaryOp .Not x pos) env) Q s:=
 bD (arm_eval_UnaryOp ..) (a8 (ak h λv s₁ h₁=>a8 (au (aq h₁))))
theorem gk {value slice pos} {Q:Value->Shared->Prop} (h:ag M A (eval value env) (λo s₁=>ag M A (eval slice env) (λi s₂=>ag M A (subscriptTail value slice o i) Q s₂) s₁) s):ag M A (eval (.Subscript value slice pos) env) Q s:=
 bD (eval_Subscript ..) (a8 (ak h λo s₁ h₁=>a8 (aq (ak h₁ λi s₂ h₂=>a8 (au h₂)))))
theorem KX {elts:List Expr} {pos:Pos} {Q:Value->Shared->Prop} (h:ag M A (spliced (backTo pos (starEach elts env))) (λvs s₁=>ag M A (newList vs) Q s₁) s):ag M A (eval (.List elts pos) env) Q s:=
 bD (arm_eval_List ..) (a8 (au (a8 h)))
theorem Fy {elts:List Expr} {k:Nat} {pos:Pos} {Q:Value->Shared->Prop} (h:ag M A (spliced (backTo pos (starEach elts env))) (λvs s₁=>ag M A (newTuple vs) Q s₁) s):ag M A (eval (.Tuple elts k pos) env) Q s:=
 bD (arm_eval_Tuple ..) (a8 (au (a8 h)))
theorem qG {pos:Pos} {Q:List Value->Shared->Prop} (h:Q [] s):ag M A (spliced (backTo pos (starEach [] env))) Q s:=ah h
theorem pD {pos:Pos} {e:Expr} {rest:List Expr} {Q:List Value->Shared->Prop} (he:starEach (e::rest) env=(false,eval e env)::starEach rest env)
  (h:ag M A (eval e env) (λv s₁=>ag M A (spliced (backTo pos (starEach rest env))) (λvs s₂=>Q (v::vs) s₂) s₁) s):ag M A (spliced (backTo pos (starEach (e::rest) env))) Q s:=by
 rw [he]
 show ag M A (eval e env>>=_) Q s
 exact a8 (ak h λv s₁ h₁=>a8 (ah (a8 (aq (ak h₁ λvs s₂ h₂=>ah h₂)))))
theorem nj {value:Expr} {attr:Str} {pos:Pos} {Q:Value->Shared->Prop} (hb:attributeBase value attr env (eval value env)=eval value env) (h:ag M A (eval value env) (λo s₁=>ag M A (getAttr o attr true) (λr s₂=>ag M A (letTemporaryGo value o r) (λ_=>Q r) s₂) s₁) s):
  ag M A (eval (.Attribute value attr pos) env) Q s:=by
 rw [arm_eval_Attribute,hb]
 exact a8 (ak h λo s₁ h₁=>a8 (au (a8 (aq (ak h₁ λr s₂ h₂=>a8 (ak h₂ λ_ _ z=>ah z))))))
theorem Tw {test body orelse pos} {Q:Flow->Shared->Prop} (h:ag M A (isTrue test env (eval test env)) (λb s₂=>if b then ag M A (execs body env) Q s₂ else ag M A (execs orelse env) Q s₂) s):ag M A (exec (.If test body orelse pos) env) Q s:=by
 refine bD (exec_If ..) (a8 (au (a8 (ak h λb s₂ h₂=> ?_))))
 cases b<;>exact h₂
theorem Ez {e pos} {Q:Flow->Shared->Prop} (h:ag M A (eval e env) (λv=>Q (.ret v)) s):ag M A (exec (.Return (some e) pos) env) Q s:=
 bD (exec_Return_some ..) (a8 (au (a8 (ak h λv s₁ h₁=>ah h₁))))
theorem sH {pos} {Q:Flow->Shared->Prop} (h:Q (.ret .none) s):ag M A (exec (.Return none pos) env) Q s:=λ_ _ _ _ _=>h
theorem xI {pos} {Q:Flow->Shared->Prop} (h:Q .cont s):ag M A (exec (.Continue pos) env) Q s:=λ_ _ _ _ _=>h
theorem sX {x:Expr} {pos:Pos} {whole:Sem Value} {Q:Bool->Shared->Prop} (h:ag M A (isTrue x env (eval x env)) (λb s₁=>Q (!b) s₁) s):ag M A (isTrue (.UnaryOp .Not x pos) env whole) Q s:=
 bD (arm_isTrue_UnaryOp ..) (a8 (ak h λb s₁ h₁=>ah h₁))
theorem tj {l op r pos whole} {Q:Bool->Shared->Prop} (hm:behindInMarks op r=false) (h:ag M A (eval l env) (λa s₁=>ag M A (eval r env) (λb s₂=>ag M A (compareOp op a b) (λc s₃=>ag M A (truthy c) Q s₃) s₂) s₁) s):ag M A (isTrue (.Compare l [op] [r] pos) env whole) Q s:=
 bD (isTrue_Compare1 ..) (a8 (ak h λa s₁ h₁=>a8 (aq (by rw [markedBehindIn_of_false hm];exact ak h₁ λb s₂ h₂=>a8 (au (a8 (iB (ak h₂ λc s₃ h₃=>aq h₃))))))))
theorem pN {e:Expr} {whole:Sem Value} {Q:Bool->Shared->Prop} (he:isTrue e env whole=(do let v←whole;standAt e.pos;holding [v] (truthy v))) (h:ag M A whole (λv s₁=>ag M A (truthy v) Q s₁) s):ag M A (isTrue e env whole) Q s:=
 bD he (a8 (ak h λv s₁ h₁=>a8 (au (aq h₁))))
theorem qw {op:BoolOp} {values:List Expr} {pos:Pos} {whole:Sem Value} {Q:Bool->Shared->Prop} (h:ag M A (allTrue op values env) Q s):ag M A (isTrue (.BoolOp op values pos) env whole) Q s:=bD (arm_isTrue_BoolOp ..) h
theorem pG {test body orelse:Expr} {pos:Pos} {whole:Sem Value} {Q:Bool->Shared->Prop} (h:ag M A (isTrue test env (eval test env)) (λb s₁=>if b then ag M A (isTrue body env (eval body env)) Q s₁ else ag M A (isTrue orelse env (eval orelse env)) Q s₁) s):ag M A (isTrue (.IfExp test body orelse pos) env whole) Q s:=by
 refine bD (arm_isTrue_IfExp ..) (a8 (ak h λb s₁ h₁=> ?_))
 cases b<;>exact h₁
theorem kB {op:BoolOp} {Q:Bool->Shared->Prop} (h:Q (op== .And) s):ag M A (allTrue op [] env) Q s:=λ_ _ _ _ _=>h
theorem kI {x:Expr} {rest:List Expr} {Q:Bool->Shared->Prop} (h:ag M A (isTrue x env (eval x env)) (λb s₁=>if b then ag M A (allTrue .And rest env) Q s₁ else Q false s₁) s):ag M A (allTrue .And (x::rest) env) Q s:=by
 refine bD (arm_allTrue_cons ..) (a8 (ak h λb s₁ h₁=> ?_))
 cases b
 ·exact ah h₁
 ·exact h₁
theorem lJ {x:Expr} {rest:List Expr} {Q:Bool->Shared->Prop} (h:ag M A (isTrue x env (eval x env)) (λb s₁=>if b then Q true s₁ else ag M A (allTrue .Or rest env) Q s₁) s):ag M A (allTrue .Or (x::rest) env) Q s:=by
 refine bD (arm_allTrue_cons ..) (a8 (ak h λb s₁ h₁=> ?_))
 cases b
 ·exact h₁
 ·exact ah h₁
theorem t9 {op:BoolOp} {pos:Pos} {x:Sem Value} {Q:Value->Shared->Prop} (h:ag M A x Q s):ag M A (boolOp pos op [x]) Q s:=bD rfl h
theorem tv {pos:Pos} {x y:Sem Value} {rest:List (Sem Value)} {Q:Value->Shared->Prop} (h:ag M A x (λv s₁=>ag M A (truthy v) (λt s₂=>if t then ag M A (boolOp pos .And (y::rest)) Q s₂ else Q v s₂) s₁) s):ag M A (boolOp pos .And (x::y::rest)) Q s:=by
 show ag M A (x>>=_) Q s
 refine (a8 (ak h λv s₁ h₁=>a8 (au (a8 (aq (ak h₁ λt s₂ h₂=> ?_))))))
 cases t
 ·exact ah h₂
 ·exact h₂
theorem vT {pos:Pos} {x y:Sem Value} {rest:List (Sem Value)} {Q:Value->Shared->Prop} (h:ag M A x (λv s₁=>ag M A (truthy v) (λt s₂=>if t then Q v s₂ else ag M A (boolOp pos .Or (y::rest)) Q s₂) s₁) s):ag M A (boolOp pos .Or (x::y::rest)) Q s:=by
 show ag M A (x>>=_) Q s
 refine (a8 (ak h λv s₁ h₁=>a8 (au (a8 (aq (ak h₁ λt s₂ h₂=> ?_))))))
 cases t
 ·exact h₂
 ·exact ah h₂
end
section
variable {M:Model} {A:Around} {s:Shared} {env:Env}
noncomputable def ig (M:Model) (A:Around) (use:Option (Value->Sem Unit)) (Q:Value->Shared->Prop) (acc:Value) (C:Addr) (s':Shared):Prop:=
 match use with
 |none=> ∃m,s'.heap.Ns C m/\ ∀h',Heap.SameBut C s'.heap h'->Q acc {s' with heap:=h'}
 |some u=>ag M A (u acc) (λ_ nP=> ∃m,nP.heap.Ns C m/\ ∀h',Heap.SameBut C nP.heap h'->Q .none {nP with heap:=h'}) s'
theorem lA {e:Expr} {scope:Scope} {pos:Pos} {newAcc first:Sem Value} {g:Comprehension} {gs:List Comprehension} {cl:List (Str×Addr)} {use:Option (Value->Sem Unit)}
  {Q:Value->Shared->Prop}
  (JP:clausesOf e=g::gs) (hs: ∀x,foldedSetIterable g.iter env x=pure x) (OB:closureFor scope env=pure cl)
  (qa:scope.kind= .function) (JQ: ∀x∈scope.names,x.2= .local->scope.names.lookup x.1=some .local)
  (h:ag M A first (λx s₁=>ag M A (pyIter x) (λit s₂=>ag M A newAcc (λacc s₃=>
   ag M A (newFunctionEnv scope env.globals cl [] env.qual none .none (some env)) (λcenv s₄=>
    aT M A (.compStart e 0 it acc {cenv with scope:=relabel scope env}) (λ_=>ig M A use Q acc cenv.locals) s₄) s₃) s₂) s₁) s):
  ag M A (comprehension e scope env pos newAcc false first use) Q s:=by
 unfold comprehension
 rw [OB,JP]
 refine a8 (ak h (λx s₁ h₁=>a8 (au (a8 (b8 (hs x) (a8 (aq (ak h₁ (λit s₂ h₂=>
  sZ (a8 (ak h₂ (λacc s₃ h₃=>a8 (ah (a8 (ak h₃ (λcenv s₄ h₄=> ?_))))))))))))))))
 dsimp only
 have hv: ∀x∈(scope.names.filter λx=>(x.2== .local||x.2== .cell)&&x.1 !=(".0":Str)).reverse,x.2= .local->
   Env.kindOf {cenv with scope:=relabel scope env} x.1=some .local:=λx hx hl=>lookup_relabel_local (JQ x (List.mem_filter.mp (List.mem_reverse.mp hx)).1 hl)
 have sx: ∀x∈(scope.names.filter λx=>(x.2== .local||x.2== .cell)&&x.1 !=(".0":Str)).reverse.drop 1++(scope.names.filter λx=>(x.2== .local||x.2== .cell)&&x.1 !=(".0":Str)).reverse.take 1,
   x.2= .local->Env.kindOf {cenv with scope:=relabel scope env} x.1=some .local:=λx hx hl=>by
  rcases List.mem_append.mp hx with h1|h1
  ·exact hv x (List.mem_of_mem_drop h1) hl
  ·exact hv x (List.mem_of_mem_take h1) hl
 refine aq (a8 (te (aq (u4 (mU h₄ λr s' hr=> ?_) (by intro z;cases z)))))
 cases use with
 |none=>
  obtain ⟨m,hn,hr⟩:=hr
  exact a8 (aq (ao (wpAny_comp_letGo (cenv:={cenv with scope:=relabel scope env}) qa _ s' m hv hn λh' m' _ cv=>(by exact ah (hr h' cv)))))
 |some u=>
  refine a8 (gH (a8 (aq (ak hr (λ_ nP lW=> ?_)))))
  obtain ⟨m,hn,lW⟩:=lW
  exact a8 (ao (wpAny_comp_letGo (cenv:={cenv with scope:=relabel scope env}) qa _ nP m sx hn λh' m' _ cv=>(by exact ah (lW h' cv))))
end
section
variable {prog:Program} {w:World} {A:Around} {s:Shared} {env:Env} {R:Flow->Shared->Prop}
theorem mH (h:R .next s):aT (model prog w) A (.block [] env) R s:=by
 refine aX rfl ?_
 rw [Around.under_of_weight (c:= .block [] env) rfl]
 show ag _ _ ((execs [] env).onRaise _>>=_) _ s
 exact a8 (cD (jA (ah h)))
theorem codeD_while1 {test:Expr} {body:List Stmt} (h:ag (model prog w) A (isTrue test env (eval test env)) (λb s1=>if b then ag (model prog w) A (execs body env) (λf s2=>match f with
   | .next| .cont=>aT (model prog w) A (.whileLoop test body [] env) R s2
   | .brk=>R .next s2
   | .ret v=>R (.ret v) s2) s1 else R .next s1) s):aT (model prog w) A (.whileLoop test body [] env) R s:=by
 refine aX rfl ?_
 rw [Around.under_of_weight (c:= .whileLoop test body [] env) rfl]
 show ag _ _ ((whileTurn test body [] env).onRaise _) _ _
 refine cD ?_
 unfold whileTurn
 refine a8 (ak h λb s1 h1=> ?_)
 cases b with
 |false=>
  simp only [Bool.false_eq_true,if_false] at h1⊢
  exact a8 (jA (ah h1))
 |true=>
  simp only [if_true] at h1⊢
  refine a8 (ak h1 λf s2 h2=> ?_)
  cases f with
  |next=>exact ah ⟨rfl,h2⟩
  |cont=>exact ah ⟨rfl,h2⟩
  |brk=>exact ah h2
  |ret v=>exact ah h2
theorem vj {target:Expr} {it:Value} {body:List Stmt} (h:ag (model prog w) A (pyNext it) (λr s1=>match r with
   |none=>R .next s1
   |some v=>ag (model prog w) A (letOwnedTupleGo target it v) (λ_ s2=>ag (model prog w) A (assign target env v) (λ_ s3=>ag (model prog w) A (execs body env) (λf s4=>match f with
    | .next| .cont=>aT (model prog w) A (.forLoop target it body [] env) R s4
    | .brk=>R .next s4
    | .ret v=>R (.ret v) s4) s3) s2) s1) s):aT (model prog w) A (.forLoop target it body [] env) R s:=by
 refine aX rfl ?_
 rw [Around.under_of_weight (c:= .forLoop target it body [] env) rfl]
 show ag _ _ ((forTurn target it body [] env).onRaise _) _ _
 refine cD ?_
 unfold forTurn
 refine a8 (au (a8 (cD (ak h λr s1 h1=> ?_))))
 cases r with
 |none=>exact ah ⟨rfl,mH h1⟩
 |some v=>
  refine a8 (ak h1 λ_ s2 h2=>a8 (ak h2 λ_ s3 h3=>a8 (ak h3 λf s4 h4=> ?_)))
  cases f with
  |next=>exact ah ⟨rfl,h4⟩
  |cont=>exact ah ⟨rfl,h4⟩
  |brk=>exact ah h4
  |ret v=>exact ah h4
noncomputable abbrev mX (ifs:List Expr) (env:Env):Sem Bool:=forIn ifs true λc r=>if r=true then do let ok←isTrue c env (eval c env);pure (ForInStep.yield ok) else pure (ForInStep.yield r)
theorem sL {elt target iter:Expr} {ifs:List Expr} {scope:Scope} {pos:Pos} {it acc:Value} (h:ag (model prog w) A (pyNext it) (λr s1=>match r with
   |none=>R .next s1
   |some v=>ag (model prog w) A (letOwnedTupleGo target it v) (λ_ s2=>ag (model prog w) A (assign target env v) (λ_ s3=>ag (model prog w) A (mX ifs env) (λok s4=>
     if ok=true then ag (model prog w) A (eval elt env) (λx s5=>ag (model prog w) A (call (.builtin "list.append") [acc,x]) (λ_ s6=>
      aT (model prog w) A (.compLoop (.ListComp elt [⟨target,iter,ifs,0⟩] scope pos) 0 it acc env) R s6) s5) s4
     else aT (model prog w) A (.compLoop (.ListComp elt [⟨target,iter,ifs,0⟩] scope pos) 0 it acc env) R s4) s3) s2) s1) s):
  aT (model prog w) A (.compLoop (.ListComp elt [⟨target,iter,ifs,0⟩] scope pos) 0 it acc env) R s:=by
 refine aX rfl ?_
 rw [Around.under_of_weight (c:= .compLoop (.ListComp elt [⟨target,iter,ifs,0⟩] scope pos) 0 it acc env) rfl]
 show ag _ _ ((compTurn (.ListComp elt [⟨target,iter,ifs,0⟩] scope pos) 0 it acc env).onRaise _) _ _
 refine cD ?_
 rw [compTurn_list]
 refine a8 (au (a8 (ak h λr s1 h1=> ?_)))
 cases r with
 |none=>exact ah h1
 |some v=>
  refine a8 (ak h1 λ_ s2 h2=>a8 (ak h2 λ_ s3 h3=>a8 (ak h3 λok s4 h4=> ?_)))
  cases ok with
  |true=>exact a8 (a8 (ak h4 λx s5 h5=>a8 (ak h5 λ_ s6 h6=>ah (ah ⟨rfl,h6⟩))))
  |false=>exact ah ⟨rfl,h4⟩
theorem mB {elt target iter ifs scope pos it acc}
  (h0:aT (model prog w) A (.compLoop (.ListComp elt [⟨target,iter,ifs,0⟩] scope pos) 0 it acc env) R s)
  (h:ag (model prog w) A (pyIter it) (λfQ s'=>aT (model prog w) A (.compLoop (.ListComp elt [⟨target,iter,ifs,0⟩] scope pos) 0 fQ acc env) R s') s):
  aT (model prog w) A (.compStart (.ListComp elt [⟨target,iter,ifs,0⟩] scope pos) 0 it acc env) R s:=by
 refine aX rfl ?_
 rw [Around.under_of_weight (c:= .compStart (.ListComp elt [⟨target,iter,ifs,0⟩] scope pos) 0 it acc env) rfl]
 show ag _ _ ((compStart (.ListComp elt [⟨target,iter,ifs,0⟩] scope pos) 0 it acc env).onRaise _) _ s
 refine cD ?_
 unfold compStart
 show ag _ _ (ask>>=_) _ s
 refine a8 (ao (wpAny_askSetting ?_))
 split
 ·first
   |exact a8 (ah (ah (And.intro rfl h0)))
   |exact ah (And.intro rfl h0)
 ·first
   |exact a8 (gH (a8 (au (a8 (ak h (λfQ s' h'=>ah (And.intro rfl h')))))))
   |(refine a8 (gH ?_);show ag _ _ (standAt iter.pos>>=_) _ s;exact a8 (au (a8 (ak h (λfQ s' h'=>ah (And.intro rfl h'))))))
theorem vc {body:List Stmt} (h:ag (model prog w) (A.deeper env) (execs body env) (λf s'=>R (.ret (match f with| .ret v=>v|_=> .none)) s') s):aT (model prog w) A (.func body env) R s:=by
 refine aX rfl ?_
 show ag _ (A.deeper env) (point>>=λ_=>(execs body env).onRaise (leaving env)>>=_) _ s
 refine a8 (oQ (a8 (cD (ak h (λf s' h'=> ?_)))))
 cases f<;>exact ah h'
theorem jU {a:Addr} {args:Args} {o:Obj} {fd:FuncData} {body:List Stmt} (OC:A.depth<recursionLimit)
  (ho:s.heap.get? a=some o)
  (sd:o.data= .func fd) (Vw:fd.scope.isCoroutine=false) (SG:fd.scope.isGenerator=false) (w9:fd.body= .stmts body) (Dr:s.heap.CodeRec fd.code fd.qualname)
  (h:ag (model prog w) A.in1 (bindArgs fd args) (λbinds s₁=>
   ag (model prog w) A.in1 (newFunctionEnv fd.scope fd.globals fd.closure binds (fd.qualname++".<locals>.") (some a) fd.code none fd.builtins)
    (λenv s₂=>s₂.heap.NoLimit/\aT (model prog w) A (.func body env) R s₂) s₁) s):
  aT (model prog w) A (.call (.ref a) args) R s:=by
 refine aX rfl ?_
 show ag _ A.in1 (callAny (.ref a) args) _ s
 simp only [callAny]
 refine a8 (ao (wpAny_load ho ?_))
 obtain ⟨c,oc,vs,tq,hc,Jv,Vx,hq⟩:=Dr
 simp only [sd,callFunction,Vw,SG,w9,hc]
 rw [hc] at h
 refine a8 (m:=field (.ref c) 1) (ao (wpAny_field Jv Vx hq ?_))
 refine a8 (ah ?_)
 exact a8 (ak h (λbinds s₁ h₁=>a8 (ak h₁ (λenv s₂ h₂=>a8 (ao (wpAny_enterFrame h₂.1 OC (by exact ah (And.intro rfl h₂.2))))))))
theorem Ap {α:Type} {vs:List Value} {m:Sem α} {Q:α->Shared->Prop} (h:ag (model prog w) A m Q s):ag (model prog w) A (m.keep vs) Q s:=
 λΓ p hΓ h1 h2=>by rw [Sem.wp_keep];exact h Γ p hΓ h1 h2
theorem gZ {pos:Pos} {f:Value} {first:List Value} {Q:Value->Shared->Prop} {args:List (Bool×Sem Value)} (zb:args.any (·.1)=false)
  (h:ag (model prog w) A (spliced args) (λvs s₁=>(∃k,(k=Keeper.frame∨k=Keeper.machine∨k=Keeper.boundFrame)/\Looks (model prog w) s₁.heap (keeperOf f) k)/\ag (model prog w) A (call f (first++vs)) Q s₁) s):
  ag (model prog w) A (callWith pos f first args []) Q s:=by
 unfold callWith
 have ev:ag (model prog w) A (evalArgs f true args []) (λa s₁=>(∃k,(k=Keeper.frame∨k=Keeper.machine∨k=Keeper.boundFrame)/\Looks (model prog w) s₁.heap (keeperOf f) k)/\a.kw= []/\ag (model prog w) A (call f (first++a.pos)) Q s₁) s:=by
  unfold evalArgs
  rcases args with _|⟨⟨b,x⟩,r⟩
  ·show ag _ _ (spliced []>>=_) _ _
   refine a8 (ak h λvs s1 h1=> ?_)
   refine aq ?_
   exact a8 (ah (a8 (ah (ah ⟨h1.1,rfl,h1.2⟩))))
  ·cases b with
   |true=>simp at zb
   |false=>
    show ag _ _ (spliced ((false,x)::r)>>=_) _ _
    refine a8 (ak h λvs s1 h1=> ?_)
    refine aq ?_
    exact a8 (ah (a8 (ah (ah ⟨h1.1,rfl,h1.2⟩))))
 refine a8 (aq (ak ev λa s₁ h₁=>a8 (au ?_)))
 obtain ⟨⟨k,f9,L⟩,Fu,hc⟩:=h₁
 have Vy:(args.any (·.1)||([]:List (Option Str×Sem Value)).any (·.1.isNone))=false:=by rw [zb];rfl
 simp only [Vy]
 refine a8 (ao (L.here ?_))
 have tail: ∀{t:Sem Value},ag (model prog w) A t Q s₁->ag (model prog w) A (t>>=λr=>holding [r] point>>=λ_=>pure r) Q s₁:=
  λht=>a8 (ak ht (λr s₂ hr=>a8 (aq (oQ (ah hr)))))
 rw [Fu]
 have marked (mk:Value):ag (model prog w) A (callMarked mk f (first++a.pos) []) Q s₁:=by unfold callMarked;exact Ap hc
 rcases f9 with rfl|rfl|rfl<;>dsimp only<;>first|exact tail hc|(split<;>first|exact tail hc|exact tail (marked _))
theorem kL {id:Str} {p pos:Pos} {args:List Expr} {Q:Value->Shared->Prop}
  (h:ag (model prog w) A (eval (.Name id p) env) (λf s₁=>ag (model prog w) A (callWith pos f [] (backTo pos (starEach args env)) []) Q s₁) s):
  ag (model prog w) A (eval (.Call (.Name id p) args [] pos) env) Q s:=by
 rw [arm_eval_Call_Name']
 exact a8 h
theorem wt {o:Expr} {name:Str} {apos pos:Pos} {args:List Expr} {Q:Value->Shared->Prop} (hb:attributeBase o name env (eval o env)=eval o env)
  (hf:methodCallForm (args.length+([]:List Keyword).length) (backTo pos (starEach args env)) []=true) (hp:apos.endLine=pos.line)
  (h:ag (model prog w) A (eval o env) (λov s₁=>ag (model prog w) A (getMethod ov name (do return (←importBound o env).getD true)) (λfx s₂=>ag (model prog w) A (callWith pos fx.1 fx.2 (backTo pos (starEach args env)) []) Q s₂) s₁) s):
  ag (model prog w) A (eval (.Call (.Attribute o name apos) args [] pos) env) Q s:=by
 rw [arm_eval_Call,hb]
 refine a8 (ak h λov s₁ h₁=>a8 (au ?_))
 unfold methodCall
 have e:backToKw pos (keywordEach [] env)= []:=rfl
 rw [e,hf]
 refine a8 (aq ?_)
 unfold calleeOf
 rw [if_pos rfl]
 refine ak h₁ λfx s₂ h₂=> ?_
 dsimp only
 unfold methodCallPos
 rw [if_pos (by simp [hp])]
 exact a8 (ah h₂)
end
end Mine.Internal
namespace Mine.Internal
open PySem PySem.W PySem.Calls PyProof.Rows
noncomputable def iZ (G:Gl) (A:Around) (t:Sem Value) (μ:Mu) (h:Heap) (K:AV->a0->Prop):Prop:=
 ∀(g:Array GenState) (d:Drawn) (tk:Nat) (os:OsState) (Q:Value->Shared->Prop),KQ G K μ h g d os Q->ag (model G.prog G.w) A t Q ⟨h,g,d,tk,os⟩
noncomputable def KT (G:Gl) (K:AV->a0->Prop) (μ:Mu) (h:Heap) (g:Array GenState) (d:Drawn) (os:OsState) (Q:Bool->Shared->Prop):Prop:=
 ∀b μ' h' aH σ',K (.bool b) σ'->Step aS μ h μ' h'->ai G μ' σ' h'->Q b ⟨h',g,d,aH,os⟩
noncomputable def AP (G:Gl) (A:Around) (t:Sem Bool) (μ:Mu) (h:Heap) (K:AV->a0->Prop):Prop:=
 ∀(g:Array GenState) (d:Drawn) (tk:Nat) (os:OsState) (Q:Bool->Shared->Prop),KT G K μ h g d os Q->ag (model G.prog G.w) A t Q ⟨h,g,d,tk,os⟩
noncomputable def o5 (G:Gl) (A:Around) (t:Sem Value) (μ:Mu) (h:Heap) (P:AV->Prop):Prop:=
 ∀(g:Array GenState) (d:Drawn) (tk:Nat) (os:OsState) (Q:Value->Shared->Prop),
  (∀v V aH,P V->VR G μ V v->Q v ⟨h,g,d,aH,os⟩)->ag (model G.prog G.w) A t Q ⟨h,g,d,tk,os⟩
theorem rD.d {G:Gl} {A:Around} {t:Sem Value} {μ:Mu} {h:Heap} {P:AV->Prop} (e:rD G A t μ h P):o5 G A t μ h P:=λg d tk os Q k=>ao (e g d tk os Q ow k)
theorem bU.d {G:Gl} {A:Around} {t:Sem Value} {μ:Mu} {h:Heap} {K:AV->a0->Prop} (e:bU G A t μ h K):iZ G A t μ h K:=λg d tk os Q k=>ao (e g d tk os Q ow k)
theorem o5.ok {G:Gl} {A:Around} {t:Sem Value} {μ:Mu} {h:Heap} {K:AV->a0->Prop} {σ:a0} (H:ai G μ σ h) (e:o5 G A t μ h λV=>K V σ):iZ G A t μ h K:=
 λg d tk os Q q=>e g d tk os Q λv V aH k r=>q.same H k r
structure lu (sc:aO) (env:Env):Prop where
 kind:env.scope.kind= .function
 loc: ∀x,sc.lookup x=some .local->env.kindOf x=some .local
 cel: ∀x,(sc.lookup x=some .cell∨sc.lookup x=some .free)->env.kindOf x=some .cell∨env.kindOf x=some .free
 glo: ∀x,sc.lookup x=some .globalImplicit->env.kindOf x=some .globalImplicit
 globals:env.globals=mainGlobals
 builtins:env.builtins=builtinsNs
inductive vw (G:Gl) (μ:Mu) (sc:aO) (env:Env) (m:Str->Option Value) (h:Heap) (x:Nat) (v:AV):Prop
 |loc (s:String) (u:Value) (hs:aN[x]?=some s) (k:sc.lookup (nm s)=some .local) (e:m (nm s)=some u) (r:VR G μ v u)
 |cell (s:String) (c:Addr) (u:Value) (hs:aN[x]?=some s) (k:sc.lookup (nm s)=some .cell∨sc.lookup (nm s)=some .free) (e:env.cells.lookup (nm s)=some c) (hc:h.IsCell c (some u)) (r:VR G μ v u)
structure Hl (G:Gl) (μ:Mu) (env:Env) (h:Heap) (c:Addr):Prop where
 out: ¬bJ μ c
 new:G.h0.get? c=none
 ne:c≠env.locals
 is: ∃v,h.IsCell c v
structure aE (G:Gl) (μ:Mu) (sc:aO) (ρ:Loc) (env:Env) (h:Heap):Prop where
 ok:lu sc env
 val: ∃m,h.Ns env.locals m/\ ∀x v,ρ x=some v->vw G μ sc env m h x v
 outL: ¬bJ μ env.locals
 newL:G.h0.get? env.locals=none
 has: ∀x,(sc.lookup x=some .cell∨sc.lookup x=some .free)-> ∃c,env.cells.lookup x=some c
 cell: ∀x c,env.cells.lookup x=some c->Hl G μ env h c
 inj: ∀x y c,env.cells.lookup x=some c->env.cells.lookup y=some c->x=y
noncomputable def eK (env:Env):Addr->Prop:=λx=>x=env.locals∨ ∃n,env.cells.lookup n=some x
noncomputable def di (sc:aO) (env:Env):Addr->Prop:=λx=>x=env.locals∨ ∃n,sc.lookup n=some .cell/\env.cells.lookup n=some x
theorem di.all {sc:aO} {env:Env} {x:Addr} (o:di sc env x):eK env x:=o.imp id λ⟨n,_,h⟩=>⟨n,h⟩
structure o6 (G:Gl):Prop where
 g: ∃mg,G.h0.Ns mainGlobals mg
 b: ∃mb,G.h0.Ns builtinsNs mb/\ ∀x:Str,x≠"__name__"->mb x=bootBuiltins x
 nolimit:G.h0.NoLimit
 names: ∀(x:Nat) (s:String),aN[x]?=some s->nm s≠"__name__"
section
variable {G:Gl} {A:Around} {μ μ':Mu} {σ σ':a0} {h h':Heap} {sc:aO} {ρ:Loc} {env:Env}
theorem lb {m:Str->Option Value} {a:Addr} (n:h.Ns a m): ∃o,h.get? a=some o:=by obtain ⟨o,_,_,e,_⟩:=n;exact ⟨o,e⟩
theorem fB {v:Option Value} {a:Addr} (n:h.IsCell a v): ∃o,h.get? a=some o:=by obtain ⟨o,e,_⟩:=n;exact ⟨o,e⟩
theorem IsCell.at {v:Option Value} {a:Addr} (n:h.IsCell a v) (k: ∀o,h.get? a=some o->h'.get? a=some o):h'.IsCell a v:=by obtain ⟨o,e,r⟩:=n;exact ⟨o,k _ e,r⟩
theorem vw.move {m:Str->Option Value} {x:Nat} {v:AV} (r:vw G μ sc env m h x v) (p:μ<+:μ') (k: ∀y c,env.cells.lookup y=some c-> ∀o,h.get? c=some o->h'.get? c=some o):vw G μ' sc env m h' x v:=by
 cases r with
 |loc s u hs k e r=>exact .loc s u hs k e (r.mono p)
 |cell s c u hs kk e hc r=>exact .cell s c u hs kk e (IsCell.at hc (k _ _ e)) (r.mono p)
theorem aE.step (L:aE G μ sc ρ env h) (S:Step aS μ h μ' h'):aE G μ' sc ρ env h':=by
 obtain ⟨m,hn,hv⟩:=L.val
 obtain ⟨oL,eL⟩:=lb hn
 have kC: ∀x c,env.cells.lookup x=some c-> ∀o,h.get? c=some o->h'.get? c=some o:=λx c hc o e=>S.keep _ _ id (L.cell x c hc).out e
 exact ⟨L.ok,⟨m,hn.at λo e=>S.keep _ _ id L.outL e,λx v e=>(hv x v e).move S.pre kC⟩,S.fS eL L.outL,L.newL,L.has,λx c hc=>
  have z:=L.cell x c hc
  let ⟨v,hi⟩:=z.is
  let ⟨o,ho⟩:=fB hi
  ⟨S.fS ho z.out,z.new,z.ne,v,IsCell.at hi (kC _ _ hc)⟩,L.inj⟩
theorem o6.Pa (T:o6 G) (H:ai G μ σ h): ∃mg,G.h0.Ns mainGlobals mg/\h.Ns mainGlobals mg:=by
 obtain ⟨mg,hg⟩:=T.g
 exact ⟨mg,hg,hg.keeps H.base⟩
theorem bp {x:Str} {c:Nat} (e:aM x=some c): ∃s,aN[c]?=some s/\nm s=x:=by
 unfold aM at e
 obtain ⟨hl,hp,_⟩:=List.findIdx?_eq_some_iff_getElem.mp e
 exact ⟨aN[c],List.getElem?_eq_getElem hl,by simpa using hp⟩
theorem Dy (K:dd G) (T:o6 G) (H:ai G μ σ h) (L:lu sc env) {x:Str} {pos:Pos} {c:Nat} {s:String} {v:Value} (hs:aN[c]?=some s) (hx:nm s=x) (hg:sc.lookup x=some .globalImplicit)
  (hd:(x==("__debug__":Str))=false) (hv:globV G.K c=some v) {M:Model} {E:Value->Shared->Prop} {Q:Value->Shared->Prop} {g:Array GenState} {d:Drawn} {tk:Nat} {os:OsState} (q:Q v ⟨h,g,d,tk,os⟩):
  wpAny M A (eval (.Name x pos) env) Q E ⟨h,g,d,tk,os⟩:=by
 subst hx
 refine Name_function_global L.kind (L.glo _ hg) ?_ hd
 obtain ⟨mg,uD,Ds⟩:=T.Pa H
 unfold globV at hv
 rw [hs] at hv
 dsimp only at hv
 split at hv
 ·rename_i u e
  cases hv
  exact loadGlobal_global (env:=env) (by rw [L.globals];exact Ds) (mg_of K.X uD e) q
 ·rename_i e
  obtain ⟨mb,hb,JR⟩:=T.b
  exact loadGlobal_builtin (env:=env) (by rw [L.globals];exact Ds) (mg_none_of K.X uD e) (by rw [L.builtins];exact hb.keeps H.base) ((JR _ (T.names _ _ hs)).trans hv) q
 ·cases hv
theorem E2 (K:dd G) {c:Nat} {v:Value} (hv:globV G.K c=some v):VR G μ (rM c) v:=by
 unfold rM
 cases e:qg c with
 |none=>exact hv
 |some u=>
  obtain ⟨w,hw,hr⟩:=K.con c u e
  rw [hv] at hw
  cases hw
  exact qU hr
theorem jV {M:Model} {E:Value->Shared->Prop} {s:Shared} {name:Str} {c:Addr} {v₀:Option Value} {v:Value} {Q:Unit->Shared->Prop} (hk:env.scope.kind= .function) (hl:env.kindOf name=some .cell∨env.kindOf name=some .free)
  (hc:env.cells.lookup name=some c) (hv:s.heap.IsCell c v₀)
  (h: ∀h',h'.IsCell c (some v)->Heap.SameBut c s.heap h'->Q () {s with heap:=h'}):wpAny M A (storeName env name v) Q E s:=by
 rcases hl with hl|hl
 ·exact wpAny_storeName_cell hk hl hc hv h
 ·exact storeName_free hk hl hc hv h
theorem ai.gX (H:ai G μ σ h) {a:Addr} (hb:Heap.SameBut a h h') (n: ¬bJ μ a) (g:G.h0.get? a=none):ai G μ σ h':=
 H.frame (λx o i e=>(hb.2 x (λq=>n (q▸i))).trans e) λx o e=>(hb.2 x (λq=>by subst q;rw [g] at e;cases e)).trans (H.base _ _ e)
structure Own (own:Addr->Prop) (h h':Heap):Prop where
 keep: ∀x o,¬own x->h.get? x=some o->h'.get? x=some o
 live: ∀x o,h.get? x=some o-> ∃o',h'.get? x=some o'
theorem Own.step {own:Addr->Prop} (O:Own own h h'):Step own μ h μ h':=⟨List.prefix_refl _,λ_ i=> .inl i,λx o n _ e=>O.keep x o n e,O.live⟩
theorem Own.refl (own:Addr->Prop) (h:Heap):Own own h h:=⟨λ_ _ _ e=>e,λ_ o e=>⟨o,e⟩⟩
theorem Own.trans {own:Addr->Prop} {bW:Heap} (O:Own own h h') (P:Own own h' bW):Own own h bW:=⟨λx o n e=>P.keep x o n (O.keep x o n e),λx o e=>let ⟨_,e'⟩:=O.live x o e;P.live _ _ e'⟩
theorem Own.grown (own:Addr->Prop) (k: ∀x o,h.get? x=some o->h'.get? x=some o):Own own h h':=⟨λx o _ e=>k x o e,λx o e=>⟨o,k x o e⟩⟩
theorem Own.same {own:Addr->Prop} {a:Addr} (hb:Heap.SameBut a h h') (ha:own a) (l: ∃o,h'.get? a=some o):Own own h h':=
 ⟨λx o n e=>(hb.2 x (λq=>n (q▸ha))).trans e,λx o e=>by
  by_cases q:x=a
  ·subst q;exact l
  ·exact ⟨o,(hb.2 x q).trans e⟩⟩
theorem yC {x:Str} (h:ee sc x=true):sc.lookup x=some .local∨sc.lookup x=some .cell:=(Bool.or_eq_true_iff.mp h).imp beq_iff_eq.mp beq_iff_eq.mp
theorem qO {c:Nat} {V w:AV} {y:Nat} (e:ρ.put c V y=some w):(y=c/\V=w)∨(y≠c/\ρ y=some w):=by
 have e:(if y=c then some V else ρ y)=some w:=e
 by_cases q:y=c
 ·rw [if_pos q] at e;exact .inl ⟨q,Option.some.inj e⟩
 ·rw [if_neg q] at e;exact .inr ⟨q,e⟩
theorem rA (H:ai G μ σ h) (L:aE G μ sc ρ env h) {x:Str} {c:Nat} {V:AV} {v:Value} (hx:aM x=some c) (hk:ee sc x=true) (r:VR G μ V v)
  {M:Model} {E:Value->Shared->Prop} {Q:Unit->Shared->Prop} {g:Array GenState} {d:Drawn} {tk:Nat} {os:OsState}
  (k: ∀h' aH,Own (di sc env) h h'->ai G μ σ h'->aE G μ sc (ρ.put c V) env h'->Q () ⟨h',g,d,aH,os⟩):wpAny M A (storeName env x v) Q E ⟨h,g,d,tk,os⟩:=by
 obtain ⟨s,hs,rfl⟩:=bp hx
 obtain ⟨m,hn,hv⟩:=L.val
 rcases yC hk with hl|hl
 ·refine wpAny_storeName_local (s:=⟨h,g,d,tk,os⟩) (L.ok.loc _ hl) hn (λh' lT cv=> ?_) (by rw [L.ok.kind];rfl)
  have kc: ∀y a,env.cells.lookup y=some a-> ∀o,h.get? a=some o->h'.get? a=some o:=λy a ha o e=>(cv.2 _ (L.cell y a ha).ne).trans e
  refine k h' _ (.same cv (.inl rfl) (lb lT)) (H.gX cv L.outL L.newL) ⟨L.ok,⟨_,lT,λy w e=> ?_⟩,L.outL,L.newL,L.has,λy a ha=>have z:=L.cell y a ha;⟨z.out,z.new,z.ne,let ⟨v1,a4⟩:=z.is;⟨v1,IsCell.at a4 (kc _ _ ha)⟩⟩,L.inj⟩
  rcases qO e with ⟨q,e⟩|⟨q,e⟩
  ·exact .loc s v (q▸hs) hl (if_pos rfl) (e▸r)
  ·cases (hv y w e).move (List.prefix_refl μ) kc with
   |loc s' u cv kk e r=>exact .loc s' u cv kk ((if_neg λw=>q (iL cv hs w)).trans e) r
   |cell s' c u hs kk e hc r=>exact .cell s' c u hs kk e hc r
 ·obtain ⟨a,ha⟩:=L.has _ (.inl hl)
  have za:=L.cell _ a ha
  obtain ⟨v1,a4⟩:=za.is
  refine jV (s:=⟨h,g,d,tk,os⟩) L.ok.kind (L.ok.cel _ (.inl hl)) ha a4 λh' JS cv=> ?_
  refine k h' _ (.same cv (.inr ⟨_,hl,ha⟩) (fB JS)) (H.gX cv za.out za.new) ⟨L.ok,⟨m,hn.at λo e=>(cv.2 _ (Ne.symm za.ne)).trans e,λy w e=> ?_⟩,L.outL,L.newL,L.has,λy b hb=>have z:=L.cell y b hb;⟨z.out,z.new,z.ne, ?_⟩,L.inj⟩
  ·rcases qO e with ⟨q,e⟩|⟨q,e⟩
   ·exact .cell s a v (q▸hs) (.inl hl) ha JS (e▸r)
   ·cases hv y w e with
    |loc s' u wa kk e r=>exact .loc s' u wa kk e r
    |cell s' c u wa kk e hc r=>exact .cell s' c u wa kk e (IsCell.at hc λo eo=>(cv.2 _ λz=>q (iL wa hs (L.inj _ _ _ (z▸e) ha))).trans eo) r
  ·by_cases q:b=a
   ·exact q▸⟨_,JS⟩
   ·exact let ⟨v2,b4⟩:=z.is;⟨v2,IsCell.at b4 λo eo=>(cv.2 _ q).trans eo⟩
end
section
variable {prog:Program} {w:World} {A:Around} {E:Value->Shared->Prop} {s:Shared}
theorem iA {h h':Heap} (x:Heap.ExtBut h.objs.size h h'): ∀b o,h.get? b=some o->h'.get? b=some o:=λb o e=>x b o (Nat.ne_of_lt (Heap.lt_size e)) e
end
section
variable {G:Gl} {A:Around} {μ μ':Mu} {σ σ':a0} {h h':Heap} {sc:aO} {ρ:Loc} {env:Env}
theorem Et (H:ai G μ σ h) {V:AV} {v:Value} {P:List AV->Prop} {M:Value->Prop} (r:VR G μ V v) (e:oB (l5 V σ) P) (l: ∀b xs vs,h.IsList b vs->ae (VR G μ) xs vs.toList->P xs->M (.ref b)) (t: ∀b xs vs,IsTup h b vs->ae (VR G μ) xs vs.toList->P xs->M (.ref b)):M v:=by
 refine eR (M:=M) r e λn b hb e=> ?_
 obtain ⟨o,ho,e⟩:=eO e
 cases o with
 |list xs=>exact let ⟨vs,hl,ha⟩:=H.obj ho hb;l _ xs vs hl.isList ha e
 |tup xs=>exact let ⟨vs,hl,ha⟩:=H.obj ho hb;t _ xs vs hl ha e
 |_=>exact e.elim
theorem km (hh:A.handled=none) (H:ai G μ σ h) {V:AV} {v:Value} {P:List AV->Prop} {n:Nat} (r:VR G μ V v) (e:oB (l5 V σ) P) (hn: ∀xs,P xs->n=xs.length) {E:Value->Shared->Prop} {Q:List Value->Shared->Prop} {g:Array GenState} {d:Drawn} {tk:Nat} {os:OsState}
  (k: ∀xs items h',P xs->ae (VR G μ) xs items->(∀b o,h.get? b=some o->h'.get? b=some o)->Q items ⟨h',g,d,tk,os⟩):wpAny (model G.prog G.w) A (unpackItems v n none) Q E ⟨h,g,d,tk,os⟩:=by
 refine Et (M:=λv=>wpAny (model G.prog G.w) A (unpackItems v n none) Q E ⟨h,g,d,tk,os⟩) H r e (λb xs vs hl ha p=> ?_) λb xs vs hl ha p=> ?_
 ·rw [(hn xs p).trans (show xs.length=vs.size from ha.length)]
  exact kun_itemsOf (s:=⟨h,g,d,tk,os⟩) hh hl λh' x=>k _ _ h' p ha (iA x)
 ·rw [(hn xs p).trans (show xs.length=vs.size from ha.length)]
  exact wpAny_unpackItems_tuple (s:=⟨h,g,d,tk,os⟩) hh hl λh' x=>k _ _ h' p ha (iA x)
theorem aE.grown (L:aE G μ sc ρ env h) (k: ∀x o,h.get? x=some o->h'.get? x=some o):aE G μ sc ρ env h':=L.step (.grown _ k)
theorem Step.iX {sc:aO} {env:Env} {μ'':Mu} {bW:Heap} (S:Step (di sc env) μ h μ' h') (T:Step (di sc env) μ' h' μ'' bW):Step (di sc env) μ h μ'' bW:=S.trans T (λ_ q=>q) λ_ _ _ q=>q
theorem Step.gh {sc:aO} {env:Env} (S:Step aS μ h μ' h'):Step (di sc env) μ h μ' h':=⟨S.pre,S.new,λx o _ i e=>S.keep x o (by intro z;exact z) i e,S.live⟩
end
noncomputable def Nx (sc:aO) (t:Expr) (nt:NT):Prop:= ∀{G:Gl} {A:Around} {μ:Mu} {σ:a0} {env:Env} {h:Heap} {ρ:Loc} {V:AV} {v:Value} {P:Loc->Prop},A.handled=none->ai G μ σ h->aE G μ sc ρ env h->VR G μ V v->wN σ nt V ρ P->
 ∀{E:Value->Shared->Prop} {Q:Unit->Shared->Prop} {g:Array GenState} {d:Drawn} {tk:Nat} {os:OsState},(∀h' aH ρ',P ρ'->Own (di sc env) h h'->ai G μ σ h'->aE G μ sc ρ' env h'->Q () ⟨h',g,d,aH,os⟩)->wpAny (model G.prog G.w) A (assign t env v) Q E ⟨h,g,d,tk,os⟩
noncomputable def xh (sc:aO) (ts:List Expr) (nts:List NT):Prop:= ∀{G:Gl} {A:Around} {μ:Mu} {σ:a0} {env:Env},A.handled=none-> ∀{h:Heap} {ρ:Loc} {xs:List AV} {vs:List Value} {P:Loc->Prop},ai G μ σ h->aE G μ sc ρ env h->ae (VR G μ) xs vs->jL σ nts xs ρ P->
 ∀{E:Value->Shared->Prop} {Q:Unit->Shared->Prop} {g:Array GenState} {d:Drawn} {tk:Nat} {os:OsState},(∀h' aH ρ',P ρ'->Own (di sc env) h h'->ai G μ σ h'->aE G μ sc ρ' env h'->Q () ⟨h',g,d,aH,os⟩)->wpAny (model G.prog G.w) A (assignInOrder ((assignEach ts env).map (·.2)) vs) Q E ⟨h,g,d,tk,os⟩
structure GO (sc:aO) (ts:List Expr) (nts:List NT):Prop where
 each: ∀env,(assignEach ts env).findIdx? (·.1)=none/\(assignEach ts env).length=nts.length
 len: ∀{σ:a0} {xs:List AV} {ρ:Loc} {P:Loc->Prop},jL σ nts xs ρ P->nts.length=xs.length
 asg:xh sc ts nts
structure cL (sc:aO) (t:Expr) (nt:NT):Prop where
 asg:Nx sc t nt
 ex: ∀{σ V ρ P},wN σ nt V ρ P-> ∃ρ',P ρ'
 fM: ∀x p,t= .Name x p-> ∃c,aM x=some c/\ee sc x=true/\nt= .name c
 tup: ∀nts,nt= .tup nts-> ∃es k p,t= .Tuple es k p/\GO sc es nts
 star: ∀ts env,assignEach (t::ts) env=(false,assign t env)::assignEach ts env
section
variable {G:Gl} {A:Around} {μ:Mu} {σ:a0} {h:Heap} {sc:aO} {ρ:Loc} {env:Env} {ts:List Expr} {nts:List NT}
theorem kP (T:ae (cL sc) ts nts):(assignEach ts env).findIdx? (·.1)=none/\(assignEach ts env).length=nts.length:=by
 induction T with
 |nil=>exact ⟨rfl,rfl⟩
 |cons h t ih=>
  rw [h.star]
  exact ⟨by rw [List.findIdx?_cons,ih.1];rfl,congrArg Nat.succ ih.2⟩
theorem rP (T:ae (cL sc) ts nts): ∀{xs:List AV} {ρ:Loc} {P:Loc->Prop},jL σ nts xs ρ P->nts.length=xs.length:=by
 induction T with
 |nil=>intro xs ρ P e;cases xs with
  |nil=>rfl
  |cons=>exact e.elim
 |cons h t ih=>intro xs ρ P e;cases xs with
  |nil=>exact e.elim
  |cons x xs=>exact let ⟨_,z⟩:=h.ex e;congrArg Nat.succ (ih z)
theorem Fg (T:ae (cL sc) ts nts): ∀{xs:List AV} {ρ:Loc} {P:Loc->Prop},jL σ nts xs ρ P-> ∃ρ',P ρ':=by
 induction T with
 |nil=>intro xs ρ P e;cases xs with
  |nil=>exact ⟨_,e⟩
  |cons=>exact e.elim
 |cons h t ih=>intro xs ρ P e;cases xs with
  |nil=>exact e.elim
  |cons x xs=>exact let ⟨_,z⟩:=h.ex e;ih z
theorem tH (T:ae (cL sc) ts nts):xh sc ts nts:=by
 intro G A μ σ env hh
 induction T with
 |nil=>
  intro h ρ xs vs P H L r e E Q g d tk os k
  cases r with
  |nil=>exact wpAny_pure (k h tk _ e (.refl _ _) H L)
  |cons _ _=>exact e.elim
 |cons z t ih=>
  intro h ρ xs vs P H L r e E Q g d tk os k
  cases r with
  |nil=>exact e.elim
  |cons r1 r2=>
   rw [z.star]
   exact wpAny_bind (wpAny_holding (z.asg hh H L r1 e λh' aH ρ' e S H' L'=>ih H' L' r2 e λbW SH ρ'' p S' H'' L''=>k bW SH ρ'' p (S.trans S') H'' L''))
theorem mf {x:Str} {p:Pos} {c:Nat} (h:aM x=some c) (k:ee sc x=true):cL sc (.Name x p) (.name c):=
 ⟨λhh H L r e _ _ _ _ _ _ q=>wpAny_bind (wpAny_standAt (wpAny_bindName (rA H L h k r λh' aH S H' L'=>q h' aH _ e S H' L'))),λe=>⟨_,e⟩,λy q z=>by cases z;exact ⟨c,h,k,rfl⟩,λ_ z=>(nomatch z),λ_ _=>rfl⟩
theorem tR {k:Nat} {p:Pos} (T:ae (cL sc) ts nts):cL sc (.Tuple ts k p) (.tup nts):=
 ⟨λ{G A μ σ env h ρ V v P} hh H L r e E Q g d tk os q=>by
  rw [arm_assign_Tuple]
  refine wpAny_bind (wpAny_standAt ?_)
  unfold unpack
  rw [(kP T).1,(kP T).2]
  exact wpAny_bind (wpAny_holding (km (P:=Bv (jL σ nts) ρ P) hh H r e (λxs p=>rP T p) λxs items h' p ha hk=>tH T hh (H.grown hk) (L.grown hk) ha p λbW aH ρ' p S H' L'=>q bW aH ρ' p ((Own.grown _ hk).trans S) H' L')),
 λ{σ V ρ P} e=>let ⟨xs,_,z⟩:=eP (P:=Bv (jL σ nts) ρ P) e;Fg T z,λy q z=>(nomatch z),λ_ z=>by cases z;exact ⟨ts,k,p,rfl,λ_=>kP T,λe=>rP T e,tH T⟩,λ_ _=>rfl⟩
end
mutual
noncomputable def cN (sc:aO):(t:Expr)->Option {nt:NT//cL sc t nt}
 | .Name x p=>match h:aM x with
  |some c=>if k:ee sc x=true then some ⟨.name c,mf h k⟩ else none
  |none=>none
 | .Tuple es _ _=>(Gv sc es).map λr=>⟨.tup r.1,tR r.2⟩
 |_=>none
noncomputable def Gv (sc:aO):(ts:List Expr)->Option {nts:List NT//ae (cL sc) ts nts}
 | []=>some ⟨[], .nil⟩
 |e::r=>match cN sc e with
  |some a=>(Gv sc r).map λb=>⟨a.1::b.1, .cons a.2 b.2⟩
  |none=>none
end
noncomputable def dB (h:Heap) (d:Addr) (es:Array DictEntry) (ep:Nat):Prop:= ∃o,h.get? d=some o/\o.ExactDict/\o.data= .dict es ep
theorem dB.at {h h':Heap} {d:Addr} {es:Array DictEntry} {ep:Nat} (x:dB h d es ep) (e: ∀o,h.get? d=some o->h'.get? d=some o):dB h' d es ep:=let ⟨o,ho,r⟩:=x;⟨o,e _ ho,r⟩
section
variable {prog:Program} {w:World} {A:Around} {E:Value->Shared->Prop} {s:Shared}
theorem dB.typeIs {d:Addr} {es:Array DictEntry} {ep:Nat} (x:dB s.heap d es ep):s.TypeIs (.ref d) "dict":=let ⟨o,ho,r,_⟩:=x;⟨o,ho,r.1⟩
theorem vx {d:Addr} {es:Array DictEntry} {ep:Nat} {Q:Value->Shared->Prop} (hd:(d==sysModules)=false) (hm:dB s.heap d es ep)
  (hQ:Q (.ref s.heap.objs.size) {s with heap:=s.heap.push {cls:= .type "dict_keyiterator",data:= .fields #[.ref d, .int 0 0, .int es.size 0, .int ep 0]}}):
  wpAny (model prog w) A (pyIter (.ref d)) Q E s:=by
 have hT:=hm.typeIs
 obtain ⟨o,ho,hc,w8⟩:=hm
 refine wpAny_pyIter_slot hT PySem.F.slot_dict_iter (wpAny_call_entry PySem.F.slot_dict_iter hT PySem.F.entry_dict_iter ?_ (PySem.F.args_dict_iter_1 _))
 unfold Builtin.«dict.__iter__»
 refine wpAny_bind ?_
 unfold Builtin.Dict.dictSlotNone
 refine wpAny_bind (wpAny_notOrdered_dict hT ?_)
 show wpAny _ _ (pure (Value.ref d)) _ _ s
 refine wpAny_pure ?_
 show wpAny _ _ (Builtin.Dict.showsAll d>>=_) _ _ s
 unfold Builtin.Dict.showsAll
 rw [if_neg (by rw [hd];exact Bool.false_ne_true)]
 refine wpAny_bind (wpAny_pure ?_)
 refine wpAny_bind (wpAny_dictEntries ho w8 ?_)
 refine wpAny_bind (wpAny_dictEpoch ho w8 ?_)
 exact wpAny_bind (wpAny_newObj_type (wpAny_pure ⟨_,rfl,"dict_keyiterator",_,⟨_,Heap.get?_push_size _ rfl,rfl⟩,PySem.F.slot_dict_keyiterator_next.lookup,hQ⟩))
theorem ml {it d:Addr} {i ep:Nat} {es:Array DictEntry} {Q:Option Value->Shared->Prop} (hh:A.handled=none) (hit:s.heap.IsKeyIter it d i es.size ep) (hm:dB s.heap d es ep)
  (one: ∀e,es[i]?=some e-> ∀h',h'.IsKeyIter it d (i+1) es.size ep->Heap.SameBut it s.heap h'->Q (some e.key) {s with heap:=h'})
  (fin:es[i]?=none-> ∀h',Heap.ExtBut it s.heap h'->Q none {s with heap:=h'}):wpAny (model prog w) A (pyNext (.ref it)) Q E s:=by
 obtain ⟨o,ho,hc,hd⟩:=id hit
 obtain ⟨od,Q5,Dr,uo⟩:=id hm
 unfold pyNext
 refine wpAny_bind (wpAny_attempt (wpAny_callSpecial?_slot (name:=Str.ofString "__next__") hit.typeIs PySem.F.slot_dict_keyiterator_next
  (wpAny_call_entry PySem.F.slot_dict_keyiterator_next hit.typeIs PySem.F.entry_dict_keyiterator_next ?_ (PySem.F.args_dict_keyiterator_next_1 _))))
 refine wpAny_bind (wpAny_pure ?_)
 refine wpAny_bind ?_
 refine wpAny_bind ?_
 first|refine wpAny_bind (wpAny_typeNameOfWhole_keyiter hit.typeIs (wpAny_pure ?_))|refine wpAny_bind (wpAny_typeNameOf_keyiter hit.typeIs (wpAny_pure ?_))
 refine wpAny_bind (wpAny_fieldsOf ho hd ?_)
 have Br:Builtin.Dict_items.ownsTuple "dict_keyiterator"=false:=by decide
 simp only [Br,Bool.false_eq_true,if_false]
 show wpAny _ _ (if (Value.ref d==Value.none)=true then _ else _) _ _ s
 rw [if_neg (show¬((Value.ref d==Value.none)=true) from Bool.false_ne_true)]
 refine wpAny_bind (wpAny_pure ?_)
 refine wpAny_bind (wpAny_dictEntries Q5 uo ?_)
 rw [if_neg (by simp)]
 refine wpAny_bind (wpAny_pure ?_)
 refine wpAny_bind (wpAny_dictEpoch Q5 uo ?_)
 rw [if_neg (by simp)]
 refine wpAny_pure ?_
 simp only [show¬((i:Int)<0) from by exact vE,if_false,Int.toNat_natCast]
 cases hx:es[i]? with
 |some e=>
  refine wpAny_bind ?_
  first|refine wpAny_bind (wpAny_typeNameOfWhole_keyiter hit.typeIs (wpAny_pure ?_))|refine wpAny_bind (wpAny_typeNameOf_keyiter hit.typeIs (wpAny_pure ?_))
  refine wpAny_bind (wpAny_isOneOf_keyiter hit.typeIs ?_)
  show wpAny _ _ (setField (.ref it) 1 (rawInt ((i:Int)+1))>>=_) _ _ s
  refine wpAny_bind (wpAny_setField ho hd (by simp) ?_)
  have mA:(s.heap.update it (Obj.mapFields (·.setIfInBounds 1 (rawInt ((i:Int)+1))))).IsKeyIter it d (i+1) es.size ep:=
   ⟨_,Heap.get?_update_self _ ho (Obj.isFreed_of_fields (Obj.data_mapFields hd _)),(Obj.cls_mapFields ..).trans hc,by rw [Obj.data_mapFields hd];simp [rawInt]⟩
  refine wpAny_bind (wpAny_holding ?_)
  refine wpAny_bind (wpAny_isOneOf_keyiter (s:={s with heap:=s.heap.update it (Obj.mapFields (·.setIfInBounds 1 (rawInt ((i:Int)+1))))}) mA.typeIs ?_)
  exact wpAny_pure (wpAny_pure ⟨_,rfl,wpAny_pure (one e hx _ mA (Heap.SameBut.update ..))⟩)
 |none=>
  refine wpAny_bind ?_
  first|refine wpAny_bind (wpAny_typeNameOfWhole_keyiter hit.typeIs (wpAny_pure ?_))|refine wpAny_bind (wpAny_typeNameOf_keyiter hit.typeIs (wpAny_pure ?_))
  show wpAny _ _ (setField (.ref it) 0 .none>>=_) _ _ s
  refine wpAny_bind (wpAny_setField ho hd (by simp) ?_)
  show wpAny _ _ (newExc (.type "StopIteration") []>>=_) _ _ _
  refine wpAny_bind ?_
  simp only [newExc,newTuple]
  refine wpAny_bind (wpAny_newObj_type ?_ (by size_fits))
  refine wpAny_bind (m:=firstArgMember _ _) (wpAny_of_eq (a:=Value.none) (by first|rfl|(simp only [firstArgMember];rfl)) ?_)
  refine wpAny_newObj_type ?_ (by size_fits)
  simp only [raiseNew]
  refine wpAny_bind (wpAny_handled ?_)
  first|rw [show A.in1.handled=none from hh]|rw [hh]
  refine wpAny_bind (wpAny_pure (wpAny_throw ?_))
  refine wpAny_bind (wpAny_isInstance (T:="StopIteration") (b:=true) ⟨_,Heap.get?_push_size _ rfl,rfl⟩ isSubtype_stop ?_)
  exact wpAny_pure (fin hx _ (((Heap.SameBut.update ..).extBut.push _).push _))
theorem Walks.E7 (hh:A.handled=none) (I d:Addr) (d0:d≠I) (es:Array DictEntry) (ep:Nat):
  Walks prog w A I [I,d] [I] es.size (λi v=> ∃e,es[i]?=some e/\v=e.key) (λi h=>h.IsKeyIter I d i es.size ep/\dB h d es ep) where
 sub:=λb hb=>by simp at hb;simp [hb]
 frame:=λ_ _ _ st hk=>⟨st.1.at λo e=>hk I (by simp) o e,st.2.at λo e=>hk d (by simp) o e⟩
 item:=λi s Q E hi st hQ=>by
  refine ml hh st.1 st.2 (λe hx h' mA cv=> ?_) λhx=>absurd hi (Nat.not_lt.mpr (Array.getElem?_eq_none_iff.mp hx))
  exact hQ _ h' s.toks ⟨e,hx,rfl⟩ ⟨mA,st.2.at λo e=>cv.extBut _ _ d0 e⟩ λb o hb e=>cv.extBut b o (λh=>hb (h▸ .head _)) e
 done:=λs Q E st hQ=>ml hh st.1 st.2 (λe hx=>nomatch (Array.getElem?_eq_none (Nat.le_refl _)).symm.trans hx) λ_ h' su=>hQ h' s.toks λb o hb e=>su b o (λh=>hb (by simp [h])) e
 self:=λ_ _ _ _ st hQ=>wpAny_pyIter_keyiter st.1 hQ
end
inductive bI (G:Gl) (μ:Mu):cb->Nat->Addr->List Addr->Heap->Prop
 |lst {r k:Nat} {I:Addr} {h:Heap} (b:bu) (hb:μ[r]?=some b) (hi:h.IsListIter I b.a k):bI G μ (.lst r) k I [I] h
 |tup {r k:Nat} {I:Addr} {h:Heap} (b:bu) (hb:μ[r]?=some b) (hi:h.IsTupleIter I b.a k):bI G μ (.tup r) k I [I] h
 |str {k:Nat} {I:Addr} {h:Heap} (x:Str) (t:Tok) (hi:h.IsStrIter I "str_ascii_iterator" x t k):bI G μ (.aj (x.cps.toList.map .chr)) k I [I] h
 |byt {k:Nat} {I:Addr} {h:Heap} (b:Array UInt8) (t:Tok) (hi:KBw.IsBytesIter h I b t k):bI G μ (.aj (b.toList.map λc=> .int (c.toNat:Nat))) k I [I] h
 |rng {k:Nat} {I:Addr} {h:Heap} (n:Nat) (hi:IsRangeIter h I (0+(k:Nat)*1) ((n:Int)-(k:Nat)) 1):bI G μ (.aj (upTo 0 n)) k I [I] h
 |dct {xs:List AV} {k:Nat} {I:Addr} {h:Heap} (d:Addr) (es:Array DictEntry) (ep:Nat) (hd:bJ μ d) (hi:h.IsKeyIter I d k es.size ep) (hr:dB h d es ep) (ha:ae (VR G μ) xs (es.toList.map (·.key))):bI G μ (.dct xs) k I [I] h
 |zip {r q k:Nat} {I:Addr} {h:Heap} (TI TO i1 i2:Addr) (b1 b2:bu) (nd: [I,TI,TO,i1,i2].Nodup) (h1:μ[r]?=some b1) (h2:μ[q]?=some b2) (hz:IsZip h I TI TO .none) (nQ:IsPair h TI (.ref i1) (.ref i2)) (jT: ∃a b,IsPair h TO a b)
   (l1:h.IsListIter i1 b1.a k) (l2:h.IsListIter i2 b2.a k):bI G μ (.zip r q) k I [I,TI,TO,i1,i2] h
noncomputable def jE:cb->Bool
 | .dct _=>true
 |_=>false
noncomputable def bF (G:Gl) (μ:Mu) (fp:List Addr) (h:Heap):Prop:= ∀x∈fp,¬bJ μ x/\G.h0.get? x=none/\ ∃o,h.get? x=some o
theorem Eb {μ μ':Mu} (p:μ<+:μ') {x:Addr} (i:bJ μ x):bJ μ' x:=by
 obtain ⟨b,hb,e⟩:=i
 exact ⟨b,p.subset hb,e⟩
theorem ae.uI {G:Gl} {μ μ':Mu} (p:μ<+:μ') {xs:List AV} {vs:List Value} (a:ae (VR G μ) xs vs):ae (VR G μ') xs vs:=a.imp λ_ _ q=>q.mono p
section
variable {G:Gl} {A:Around} {μ μ':Mu} {σ σ':a0} {h h':Heap} {src:cb} {k:Nat} {I:Addr} {fp:List Addr}
theorem bI.move (S:bI G μ src k I fp h) (p:μ<+:μ') (kf: ∀x∈fp,∀o,h.get? x=some o->h'.get? x=some o)
  (kd:jE src=true-> ∀x o,bJ μ x->h.get? x=some o->h'.get? x=some o):bI G μ' src k I fp h':=by
 cases S with
 |lst b hb hi=>exact .lst b (iR p hb) (hi.at (kf _ List.mem_cons_self))
 |tup b hb hi=>exact .tup b (iR p hb) (hi.at (kf _ List.mem_cons_self))
 |str x t hi=>exact .str x t (let ⟨o,e,r⟩:=hi;⟨o,kf _ List.mem_cons_self _ e,r⟩)
 |byt b t hi=>exact .byt b t (let ⟨o,e,r⟩:=hi;⟨o,kf _ List.mem_cons_self _ e,r⟩)
 |rng n hi=>exact .rng n (kf _ List.mem_cons_self _ hi)
 |dct d es ep hd hi hr ha=>exact .dct d es ep (Eb p hd) (hi.at (kf _ List.mem_cons_self)) (hr.at λo e=>kd rfl _ _ hd e) (ha.uI p)
 |zip TI TO i1 i2 b1 b2 nd h1 h2 hz nQ jT l1 l2=>
  have k1:=kf TI (.tail _ (.head _))
  have k2:=kf TO (.tail _ (.tail _ (.head _)))
  have k3:=kf i1 (.tail _ (.tail _ (.tail _ (.head _))))
  have k4:=kf i2 (.tail _ (.tail _ (.tail _ (.tail _ (.head _)))))
  exact .zip TI TO i1 i2 b1 b2 nd (iR p h1) (iR p h2) (kf _ (.head _) _ hz) (k1 _ nQ) (let ⟨a,b,z⟩:=jT;⟨a,b,k2 _ z⟩) (l1.at k3) (l2.at k4)
theorem rJ: ∀(n k a:Nat),(upTo a n)[k]?=if k<n then some (.int ((a+k:Nat):Int)) else none
 |0,k,a=>rfl
 |n+1,0,a=>rfl
 |n+1,k+1,a=>by
  show (upTo (a+1) n)[k]?=_
  rw [rJ n k (a+1)]
  by_cases h:k<n
  ·rw [if_pos h,if_pos (Nat.succ_lt_succ h),Nat.add_right_comm];rfl
  ·rw [if_neg h,if_neg λz=>h (Nat.lt_of_succ_lt_succ z)]
theorem cF: ∀(n a:Nat),(upTo a n).length=n
 |0,_=>rfl
 |n+1,a=>congrArg Nat.succ (cF n (a+1))
theorem wd {α:Type} {r:Nat} {f:AO->Option α} {o:AO} (hr:σ.get r=some o):bA σ r f=f o:=by unfold bA;rw [hr]
theorem nz {b:bu} {r:Nat} (O:bF G μ fp h) (hb:μ[r]?=some b) {x:Addr} (hx:x∈fp):b.a≠x:=λe=>(O x hx).1 (e▸(cc hb).1)
noncomputable def o8:List String:= ["list_iterator","tuple_iterator","str_ascii_iterator","bytes_iterator","range_iterator","dict_keyiterator"]
noncomputable def Eo (h:Heap) (I:Addr):Prop:= ∃o n,h.get? I=some o/\o.cls= .type n/\n∈o8
inductive QH (G:Gl) (A:Around) (μ:Mu) (σ:a0) (src:cb) (k:Nat) (I:Addr) (fp:List Addr) (h:Heap):Prop
 |mk (Wfp:List Addr) (n:Nat) (P:Nat->Value->Prop) (St:Nat->Heap->Prop) (xs:List AV) (W:Walks G.prog G.w A I Wfp [I] n P St) (ef:fp= [I]) (st:St k h) (back: ∀h',St (k+1) h'->bI G μ src (k+1) I fp h'/\Eo h' I)
   (e:jG src k σ=some (xs[k]?.map ([·]))) (len:xs.length=n) (val: ∀V v,xs[k]?=some V->P k v->VR G μ V v)
   (done:n≤k-> ∀{Q:Option Value->Shared->Prop} {E:Value->Shared->Prop} {g:Array GenState} {d:Drawn} {tk:Nat} {os:OsState},(∀h',Heap.ExtBut I h h'->Q none ⟨h',g,d,tk,os⟩)->wpAny (model G.prog G.w) A (pyNext (.ref I)) Q E ⟨h,g,d,tk,os⟩)
theorem fi {α:Type} {a:Array α} {k:Nat} (h:a.size≤k):a[k]?=none:=Array.getElem?_eq_none_iff.mpr h
theorem Rb (hh:A.handled=none) (H:ai G μ σ h) (S:bI G μ src k I fp h) (O:bF G μ fp h) {F:Option (List AV)->Prop} (e:oB (jG src k σ) F):QH G A μ σ src k I fp h∨ ∃r q,src= .zip r q:=by
 cases S with
 | @lst r _ _ _ b hb hi=>
  obtain ⟨xs,vs,hr,l1,r1,n1,_⟩:=eL (f:=λxs:List AV=>some (xs[k]?.map ([·]))) H hb e
  refine .inl ⟨_,_,_,_,xs,Walks.list hh I b.a (nz O hb (.head _)) vs,rfl,⟨hi,l1.isList⟩,λh' s'=>⟨.lst b hb s'.1,let ⟨o,ho,hc,_⟩:=s'.1;⟨o,_,ho,hc,by decide⟩⟩,wd hr,n1,λV v h1 h2=> ?_,λhk=>λq=>wpAny_pyNext_list_end (s:=⟨h,_,_,_,_⟩) hh hi l1.isList (fi hk) q⟩
  obtain ⟨w,hw,rw⟩:=r1.at h1
  exact Option.some.inj (hw.symm.trans h2)▸rw
 | @tup r _ _ _ b hb hi=>
  obtain ⟨o,hr,e⟩:=eO e
  cases o with
  |tup xs=>
   obtain ⟨vs,l1,r1⟩:=H.obj hr hb
   refine .inl ⟨_,_,_,_,xs,Walks.tuple hh I b.a (nz O hb (.head _)) vs,rfl,⟨hi,l1⟩,λh' s'=>⟨.tup b hb s'.1,let ⟨o,ho,hc,_⟩:=s'.1;⟨o,_,ho,hc,by decide⟩⟩,wd hr,r1.length,λV v h1 h2=> ?_,λhk=>λq=>wpAny_pyNext_tuple_end (s:=⟨h,_,_,_,_⟩) hh hi l1 (fi hk) q⟩
   obtain ⟨w,hw,rw⟩:=r1.at h1
   exact Option.some.inj (hw.symm.trans h2)▸rw
  |_=>exact e.elim
 |str x t hi=>
  refine .inl ⟨_,_,_,_,_,Walks.strAscii hh I x t,rfl,hi,λh' s'=>⟨.str x t s',let ⟨o,ho,hc,_⟩:=s';⟨o,_,ho,hc,by decide⟩⟩,rfl,List.length_map ..,λV v h1 h2=> ?_,λhk=>λq=>wpAny_pyNext_ascii_end (s:=⟨h,_,_,_,_⟩) hh hi (fi hk) q⟩
  obtain ⟨c,u,p1,rfl⟩:=h2
  rw [List.getElem?_map,Array.getElem?_toList,p1] at h1
  exact Option.some.inj h1▸⟨u,rfl⟩
 |byt b t hi=>
  refine .inl ⟨_,_,_,_,_,KBw.walks hh I b t,rfl,hi,λh' s'=>⟨.byt b t s',let ⟨o,ho,hc,_⟩:=s';⟨o,_,ho,hc,by decide⟩⟩,rfl,List.length_map ..,λV v h1 h2=> ?_,λhk=>λq=>KBw.next_end (s:=⟨h,_,_,_,_⟩) hh hi (fi hk) q⟩
  obtain ⟨c,u,p1,rfl⟩:=h2
  rw [List.getElem?_map,Array.getElem?_toList,p1] at h1
  exact Option.some.inj h1▸⟨u,rfl⟩
 |rng n hi=>
  refine .inl ⟨_,_,_,_,_,Walks.range hh I 0 1 n,rfl,hi,λh' s'=>⟨.rng n s',⟨_,_,s',rfl,by decide⟩⟩,rfl,cF n 0,λV v h1 h2=> ?_,λhk=>λq=>wpAny_pyNext_range_end (s:=⟨h,_,_,_,_⟩) hh hi (by exact QX hk) q⟩
  obtain ⟨u,rfl⟩:=h2
  rw [rJ] at h1
  by_cases c:k<n
  ·rw [if_pos c] at h1;exact Option.some.inj h1▸⟨u,by rw [Int.mul_one,Int.natCast_add];rfl⟩
  ·rw [if_neg c] at h1;cases h1
 | @dct xs _ _ _ d es ep hd hi hr ha=>
  refine .inl ⟨_,_,_,_,xs,Walks.E7 hh I d (λe=>(O I (.head _)).1 (e▸hd)) es ep,rfl,⟨hi,hr⟩,λh' s'=>⟨.dct d es ep hd s'.1 s'.2 ha,let ⟨o,ho,hc,_⟩:=s'.1;⟨o,_,ho,hc,by decide⟩⟩,rfl,ha.length.trans (List.length_map ..),λV v h1 h2=> ?_,λhk=>λq=>ml (s:=⟨h,_,_,_,_⟩) hh hi hr (λe hx=>nomatch (fi hk).symm.trans hx) λ_=>q⟩
  obtain ⟨en,p1,rfl⟩:=h2
  obtain ⟨w,hw,rw⟩:=ha.get' h1
  rw [List.getElem?_map,Array.getElem?_toList,p1] at hw
  exact (show en.key=w from Option.some.inj hw)▸rw
 |zip=>exact .inr ⟨_,_,rfl⟩
theorem AM {TI TO i1 i2:Addr} {b1 b2:bu} {r q:Nat} (hn: [I,TI,TO,i1,i2].Nodup) (O:bF G μ [I,TI,TO,i1,i2] h) (h1:μ[r]?=some b1) (h2:μ[q]?=some b2):ZipApart I TI TO i1 i2 b1.a b2.a:=by
 simp only [List.nodup_cons,List.mem_cons,List.not_mem_nil,or_false,not_or,List.nodup_nil,not_false_eq_true,and_true] at hn
 obtain ⟨⟨n1,n2,n3,n4⟩,⟨n5,n6,n7⟩,⟨n8,n9⟩,Vz⟩:=hn
 have o1:=λ{x}=>nz (x:=x) O h1
 have o2:=λ{x}=>nz (x:=x) O h2
 have m0:I∈ [I,TI,TO,i1,i2]:= .head _
 have m2:TO∈ [I,TI,TO,i1,i2]:= .tail _ (.tail _ (.head _))
 have m3:i1∈ [I,TI,TO,i1,i2]:= .tail _ (.tail _ (.tail _ (.head _)))
 have m4:i2∈ [I,TI,TO,i1,i2]:= .tail _ (.tail _ (.tail _ (.tail _ (.head _))))
 exact ⟨Ne.symm n1,Ne.symm n2,Ne.symm n3,Ne.symm n4,n5,n6,n7,n8,n9,Vz,o1 m0,o1 m2,o1 m3,o1 m4,o2 m0,o2 m2,o2 m3,o2 m4⟩
theorem bI.live (S:bI G μ src k I fp h): ∀x∈fp,∃o,h.get? x=some o:=by
 have one: ∀{p:Obj->Prop},(∃o,h.get? I=some o/\p o)-> ∀x∈ [I],∃o,h.get? x=some o:=λz x hx=>let ⟨o,e,_⟩:=z;⟨o,List.mem_singleton.mp hx▸e⟩
 cases S with
 |lst b hb hi=>exact one hi
 |tup b hb hi=>exact one hi
 |str x t hi=>exact one hi
 |byt b t hi=>exact one hi
 |rng n hi=>exact λx hx=>⟨_,List.mem_singleton.mp hx▸hi⟩
 |dct d es ep hd hi hr ha=>exact one hi
 |zip TI TO i1 i2 b1 b2 nd h1 h2 hz nQ jT l1 l2=>
  exact List.forall_mem_cons.mpr ⟨⟨_,hz⟩,List.forall_mem_cons.mpr ⟨⟨_,nQ⟩,List.forall_mem_cons.mpr ⟨let ⟨_,_,z⟩:=jT;⟨_,z⟩,List.forall_mem_cons.mpr ⟨let ⟨o,z,_⟩:=l1;⟨o,z⟩,List.forall_mem_cons.mpr ⟨let ⟨o,z,_⟩:=l2;⟨o,z⟩,λ_ z=>nomatch z⟩⟩⟩⟩⟩
theorem bF.next (O:bF G μ fp h) (l: ∀x∈fp,∃o,h'.get? x=some o):bF G μ fp h':=λx hx=>⟨(O x hx).1,(O x hx).2.1,l x hx⟩
theorem bF.step {own:Addr->Prop} (O:bF G μ fp h) (S:Step own μ h μ' h'):bF G μ' fp h':=λx hx=>by
 obtain ⟨a,b,o,e⟩:=O x hx
 exact ⟨S.fS e a,b,S.live _ _ e⟩
theorem ai.off (H:ai G μ σ h) (O:bF G μ fp h) (kk: ∀b o,b∉fp->h.get? b=some o->h'.get? b=some o):ai G μ σ h':=
 H.frame (λx o i e=>kk x o (λq=>(O x q).1 i) e) λx o e=>kk x o (λq=>by rw [(O x q).2.1] at e;cases e) (H.base _ _ e)
theorem aE.off {sc:aO} {ρ:Loc} {env:Env} (L:aE G μ sc ρ env h) (ap: ∀x∈fp,¬eK env x) (kk: ∀b o,b∉fp->h.get? b=some o->h'.get? b=some o):aE G μ sc ρ env h':=
 have kC: ∀x c,env.cells.lookup x=some c-> ∀o,h.get? c=some o->h'.get? c=some o:=λx c hc o e=>kk _ o (λq=>ap _ q (.inr ⟨x,hc⟩)) e
 let ⟨m,hn,hv⟩:=L.val
 ⟨L.ok,⟨m,hn.at λo e=>kk _ o (λq=>ap _ q (.inl rfl)) e,λx v e=>(hv x v e).move (List.prefix_refl _) kC⟩,L.outL,L.newL,L.has,λx c hc=>have z:=L.cell x c hc;⟨z.out,z.new,z.ne,let ⟨v,hi⟩:=z.is;⟨v,IsCell.at hi (kC _ _ hc)⟩⟩,L.inj⟩
theorem Step.off (kk: ∀b o,b∉fp->h.get? b=some o->h'.get? b=some o) (l: ∀x∈fp,∃o,h'.get? x=some o):Step (· ∈fp) μ h μ h':=
 ⟨List.prefix_refl _,λ_ i=> .inl i,λx o n _ e=>kk x o n e,λx o e=>by
  by_cases q:x∈fp
  ·exact l x q
  ·exact ⟨o,kk x o q e⟩⟩
theorem sR {t:Expr} {v:Value} {o:Obj} {n:String} {M:Model} {Q:Unit->Shared->Prop} {E:Value->Shared->Prop} {s:Shared} (ho:s.heap.get? I=some o) (hc:o.cls= .type n)
  (hn:n∈o8) (q:Q () s):wpAny M A (letOwnedTupleGo t (.ref I) v) Q E s:=by
 unfold letOwnedTupleGo
 cases t<;>first
  |exact wpAny_pure q
  |(
   cases v<;>first
    |exact wpAny_pure q
    |(
     refine wpAny_bind (wpAny_load ho ?_)
     rw [hc]
     cases o.data<;>first
      |exact wpAny_pure q
      |(
        dsimp only
        exact wpAny_ite_split (λz=>absurd (Bool.and_eq_true_iff.mp z).1 ((by decide+kernel: ∀n∈o8,¬(List.contains _ n)=true) n hn)) λ_=>wpAny_pure q)))
section
variable {sc:aO} {ρ ρ1:Loc} {env:Env} {nt:NT}
noncomputable def Qx (sc:aO) (env:Env) (fp:List Addr):Addr->Prop:=λx=>di sc env x∨x∈fp
noncomputable def By (G:Gl) (μ:Mu) (σ:a0) (sc:aO) (env:Env) (src:cb) (k:Nat) (I:Addr) (fp:List Addr) (h:Heap) (g:Array GenState) (d:Drawn) (os:OsState) (Y:Loc->Prop) (N:Shared->Prop):Prop:=
 ∀h' aH ρ1,Y ρ1->Step (Qx sc env fp) μ h μ h'->ai G μ σ h'->aE G μ sc ρ1 env h'->bI G μ src (k+1) I fp h'->bF G μ fp h'->N ⟨h',g,d,aH,os⟩
theorem qE (L:aE G μ sc ρ env h) (O:bF G μ fp h) (ap: ∀x∈fp,¬eK env x) {Y:Loc->Prop} {N:Shared->Prop} {g:Array GenState} {d:Drawn} {os:OsState} (q:By G μ σ sc env src k I fp h g d os Y N)
  {h1 h2:Heap} (kk: ∀b o,b∉fp->h.get? b=some o->h1.get? b=some o) (S1:bI G μ src (k+1) I fp h1) (T:Own (di sc env) h1 h2) (H2:ai G μ σ h2) (p:Y ρ1) (L2:aE G μ sc ρ1 env h2) (aH:Nat):N ⟨h2,g,d,aH,os⟩:=by
 have l1:=S1.live
 have nb: ∀x,bJ μ x-> ¬di sc env x:=λx i z=>z.elim (λe=>L.outL (e▸i)) λ⟨n,_,hn⟩=>(L.cell _ _ hn).out i
 exact q h2 aH ρ1 p ((Step.off kk l1).trans T.step (λx hx=> .inr hx) λx o _ hx=> .inl hx) H2 L2
  (S1.move (List.prefix_refl _) (λx hx o e=>T.keep x o (λz=>ap x hx z.all) e) λ_ x o i e=>T.keep x o (nb x i) e) ((O.next l1).step (T.step (μ:=μ)))
noncomputable def BO (G:Gl) (A:Around) (μ:Mu) (σ:a0) (sc:aO) (ρ:Loc) (env:Env) (nt:NT) (t:Expr) (src:cb) (k:Nat) (I:Addr) (fp:List Addr) (h:Heap) (g:Array GenState) (d:Drawn) (os:OsState) (v:Value) (vs:List AV) (s1:Shared):Prop:=
 ∀{Y:Loc->Prop} {N:Shared->Prop},wY σ nt vs ρ Y->By G μ σ sc env src k I fp h g d os Y N->ag (model G.prog G.w) A (letOwnedTupleGo t (.ref I) v) (λ_ s2=>ag (model G.prog G.w) A (assign t env v) (λ_ s3=>N s3) s2) s1
theorem zy (hh:A.handled=none) {t:Expr} (T:cL sc t nt) (H:ai G μ σ h) (L:aE G μ sc ρ env h) {r q':Nat} (S:bI G μ (.zip r q') k I fp h) (O:bF G μ fp h) (ap: ∀x∈fp,¬eK env x) {F:Option (List AV)->Prop} (e:oB (jG (.zip r q') k σ) F)
  {R:Option Value->Shared->Prop} {g:Array GenState} {d:Drawn} {tk:Nat} {os:OsState} (qe:F none-> ∀h',(∀b o,b∉fp->h.get? b=some o->h'.get? b=some o)->R none ⟨h',g,d,tk,os⟩)
  (qt: ∀v vs s1,F (some vs)->BO G A μ σ sc ρ env nt t (.zip r q') k I fp h g d os v vs s1->R (some v) s1):ag (model G.prog G.w) A (pyNext (.ref I)) R ⟨h,g,d,tk,os⟩:=by
 cases S with
 |zip TI TO i1 i2 b1 b2 hn h1 h2 hz nQ jT l1 l2=>
  obtain ⟨xs,as,hr,m1,r1,n1,e⟩:=eL H h1 e
  obtain ⟨ys,bs,hq,m2,r2,n2,e⟩:=eL H h2 e
  have D:=AM hn O h1 h2
  have stop:(as[k]?=none∨bs[k]?=none)->F none->ag (model G.prog G.w) A (pyNext (.ref I)) R ⟨h,g,d,tk,os⟩:=λSJ f=>by
   obtain ⟨a,b,jT⟩:=jT
   refine ao (wpAny_pyNext_zip_end (s:=⟨h,g,d,tk,os⟩) hh D hz nQ jT l1 l2 m1.isList m2.isList SJ λh' kk=>qe f h' λb o hb e=> ?_)
   simp only [List.mem_cons,List.not_mem_nil,or_false,not_or] at hb
   exact kk b o hb.1 hb.2.2.1 hb.2.2.2.1 hb.2.2.2.2 e
  cases e1:xs[k]? with
  |none=>rw [e1] at e;exact stop (.inl (fi (n1▸List.getElem?_eq_none_iff.mp e1))) e
  |some x=>
   rw [e1] at e
   cases e2:ys[k]? with
   |none=>rw [e2] at e;exact stop (.inr (fi (n2▸List.getElem?_eq_none_iff.mp e2))) e
   |some y=>
    rw [e2] at e
    obtain ⟨u1,VA,v1⟩:=r1.at e1
    obtain ⟨u2,VB,v2⟩:=r2.at e2
    obtain ⟨_,_,jT⟩:=jT
    refine ao (wpAny_pyNext_zip_item (s:=⟨h,g,d,tk,os⟩) D hz nQ jT l1 l2 m1.isList m2.isList VA VB λh' z1 z2 z3 z4 z5 z6 z7=>qt _ [x,y] _ e λ{Y N} ey q=> ?_)
    cases nt with
    |name=>exact ey.elim
    |tup nts=>
     obtain ⟨es,Wf,pos,rfl,Ts⟩:=T.tup nts rfl
     refine ao (wpAny_letOwnedTupleGo_zip (s:=⟨h',g,d,tk,os⟩) z1 λbW y1 uE=> ?_)
     have JT: ∀b o,b∉ [I,TI,TO,i1,i2]->h.get? b=some o->bW.get? b=some o:=λb o hb e=>by
      simp only [List.mem_cons,List.not_mem_nil,or_false,not_or] at hb
      exact uE.extBut b o hb.1 (z7 b o hb.1 hb.2.2.1 hb.2.2.2.1 hb.2.2.2.2 e)
     have S2:bI G μ (.zip r q') (k+1) I [I,TI,TO,i1,i2] bW:= .zip TI TO i1 i2 b1 b2 hn h1 h2 y1 (uE.extBut _ _ D.TIz (z7 _ _ D.TIz D.TITO D.TIi1 D.TIi2 nQ))
      ⟨_,_,uE.extBut _ _ D.TOz z2⟩ (z3.extBut uE.extBut D.i1z) (z4.extBut uE.extBut D.i2z)
     have hI:h.objs.size≠I:=λeq=>let ⟨o,eo⟩:=(O I (.head _)).2.2;Nat.ne_of_lt (Heap.lt_size eo) eq.symm
     have hT:bW.IsTuple h.objs.size #[u1,u2]:=⟨_,uE.extBut _ _ hI z5,rfl,_,rfl⟩
     refine ao (wpAny_assign_Tuple (s:=⟨bW,g,d,tk,os⟩) hh hT ((Ts.each env).2.trans (Ts.len ey)) (Ts.each env).1 λh3 x3=> ?_)
     have g3:=iA x3
     exact Ts.asg hh ((H.off O JT).grown g3) ((L.off ap JT).grown g3) (.cons v1 (.cons v2 .nil)) ey λh4 Dt ρ4 p T H4 L4=>qE L O ap q JT S2 ((Own.grown _ g3).trans T) H4 p L4 Dt
theorem tW (hh:A.handled=none) {t:Expr} (T:cL sc t nt) (H:ai G μ σ h) (L:aE G μ sc ρ env h) (S:bI G μ src k I fp h) (O:bF G μ fp h) (ap: ∀x∈fp,¬eK env x) {F:Option (List AV)->Prop} (e:oB (jG src k σ) F)
  {R:Option Value->Shared->Prop} {g:Array GenState} {d:Drawn} {tk:Nat} {os:OsState} (qe:F none-> ∀h',(∀b o,b∉fp->h.get? b=some o->h'.get? b=some o)->R none ⟨h',g,d,tk,os⟩)
  (qt: ∀v vs s1,F (some vs)->BO G A μ σ sc ρ env nt t src k I fp h g d os v vs s1->R (some v) s1):ag (model G.prog G.w) A (pyNext (.ref I)) R ⟨h,g,d,tk,os⟩:=by
 rcases Rb hh H S O e with W|⟨r,q',rfl⟩
 ·cases W with
  |mk Wfp n P St xs W ef st back en len val done=>
   rw [en] at e
   cases hx:xs[k]? with
   |none=>
    rw [hx] at e
    exact ao (done (len▸List.getElem?_eq_none_iff.mp hx) λh' x=>qe e h' λb o hb=>x b o λz=>hb (ef▸z▸ .head _))
   |some V=>
    rw [hx] at e
    refine ao (W.item k ⟨h,g,d,tk,os⟩ _ _ (len▸(List.getElem?_eq_some_iff.mp hx).1) st λv h1 aK p s1 kk=>qt v [V] _ e λ{Y N} y q=> ?_)
    have JU: ∀b o,b∉fp->h.get? b=some o->h1.get? b=some o:=λb o hb e=>kk b o (ef▸hb) e
    obtain ⟨S1,o,n,ho,hc,hn⟩:=back h1 s1
    refine ao (sR ho hc hn ?_)
    exact ao (T.asg hh (H.off O JU) (L.off ap JU) (val V v hx p) y λh2 b9 ρ2 p T H2 L2=>qE L O ap q JU S1 T H2 p L2 b9)
 ·exact zy hh T H L S O ap e qe qt
end
end
noncomputable def HJ (G:Gl) (μ:Mu) (fl:Fl) (f:Flow):Prop:=match fl with
 | .next=>f= .next
 | .cont=>f= .cont
 | .ret V=> ∃v,f= .ret v/\VR G μ V v
noncomputable def KS (G:Gl) (K:KF) (sc:aO) (env:Env) (μ:Mu) (h:Heap) (g:Array GenState) (d:Drawn) (os:OsState) (Q:Flow->Shared->Prop):Prop:=
 ∀fl f ρ' μ' h' aH σ',K fl ρ' σ'->HJ G μ' fl f->Step (di sc env) μ h μ' h'->ai G μ' σ' h'->aE G μ' sc ρ' env h'->Q f ⟨h',g,d,aH,os⟩
noncomputable def yp (G:Gl) (A:Around) (sc:aO) (env:Env) (t:Sem Flow) (μ:Mu) (h:Heap) (K:KF):Prop:=
 ∀(g:Array GenState) (d:Drawn) (tk:Nat) (os:OsState) (Q:Flow->Shared->Prop),KS G K sc env μ h g d os Q->ag (model G.prog G.w) A t Q ⟨h,g,d,tk,os⟩
noncomputable def OL (G:Gl) (A:Around) (t:Sem Bool) (μ:Mu) (h:Heap) (K:Bool->a0->Prop):Prop:=
 ∀(g:Array GenState) (d:Drawn) (tk:Nat) (os:OsState) (Q:Bool->Shared->Prop),(∀b μ' h' aH σ',K b σ'->Step aS μ h μ' h'->ai G μ' σ' h'->Q b ⟨h',g,d,aH,os⟩)->ag (model G.prog G.w) A t Q ⟨h,g,d,tk,os⟩
structure eM (own:Addr->Prop) (fp:List Addr) (μ:Mu) (h:Heap) (μ':Mu) (h':Heap):Prop where
 pre:μ<+:μ'
 new: ∀x,bJ μ' x->bJ μ x∨h.get? x=none
 keep: ∀x o,¬own x->x∉fp-> ¬bJ μ x->h.get? x=some o->h'.get? x=some o
 live: ∀x o,x∉fp->h.get? x=some o-> ∃o',h'.get? x=some o'
section
variable {G:Gl} {A:Around} {μ μ' μ'':Mu} {σ σ':a0} {h h' bW:Heap} {sc:aO} {env:Env} {own:Addr->Prop} {fp:List Addr}
theorem eM.off (kk: ∀b o,b∉fp->h.get? b=some o->h'.get? b=some o):eM own fp μ h μ h':=
 ⟨List.prefix_refl _,λ_ i=> .inl i,λx o _ n _ e=>kk x o n e,λx o n e=>⟨o,kk x o n e⟩⟩
theorem Step.Bb {gO:Addr->Prop} (S:Step gO μ h μ' h') (T:eM own fp μ' h' μ'' bW) (hs: ∀x,gO x->own x∨x∈fp):eM own fp μ h μ'' bW:=
 ⟨S.pre.trans T.pre,λx i=>(T.new x i).elim (S.new x) λe=> .inr (S.none_of e),
  λx o n nf i e=>T.keep x o n nf (S.fS e i) (S.keep x o (λq=>(hs x q).elim n nf) i e),λx o nf e=>let ⟨_,e'⟩:=S.live x o e;T.live _ _ nf e'⟩
theorem Step.toF (S:Step own μ h μ' h'):eM own fp μ h μ' h':=S.Bb (.off λ_ _ _ e=>e) λ_ q=> .inl q
theorem bI.mG {src:cb} {k:Nat} {I:Addr} (S:bI G μ src k I fp h) (nd:jE src=false) (O:bF G μ fp h) (ap: ∀x∈fp,¬eK env x) (T:Step (di sc env) μ h μ' h'):bI G μ' src k I fp h':=
 S.move T.pre (λx hx o e=>T.keep x o (λz=>ap x hx z.all) (O x hx).1 e) λz=>nomatch nd.symm.trans z
noncomputable def Bx (G:Gl) (K:KF) (sc:aO) (env:Env) (fp:List Addr) (μ:Mu) (h:Heap) (g:Array GenState) (d:Drawn) (os:OsState) (Q:Flow->Shared->Prop):Prop:=
 ∀fl f ρ' μ' h' aH σ',K fl ρ' σ'->HJ G μ' fl f->eM (di sc env) fp μ h μ' h'->ai G μ' σ' h'->aE G μ' sc ρ' env h'->Q f ⟨h',g,d,aH,os⟩
theorem Bx.after {gO:Addr->Prop} {K:KF} {g:Array GenState} {d:Drawn} {os:OsState} {Q:Flow->Shared->Prop} (q:Bx G K sc env fp μ h g d os Q) (S:Step gO μ h μ' h') (hs: ∀x,gO x->di sc env x∨x∈fp):Bx G K sc env fp μ' h' g d os Q:=
 λfl f ρ' μ'' bW aH σ' k r T=>q fl f ρ' μ'' bW aH σ' k r (S.Bb T hs)
theorem wF (hh:A.handled=none) {t:Expr} {nt:NT} (T:cL sc t nt) {body:List Stmt} {B:Loc->a0->KF->Prop} {src:cb} (nd:jE src=false) {I:Addr} (ap: ∀x∈fp,¬eK env x)
  (hB: ∀{ρ σ μ h K},ai G μ σ h->aE G μ sc ρ env h->B ρ σ K->yp G A sc env (execs body env) μ h K) {K:KF} {g:Array GenState} {d:Drawn} {os:OsState} {R:Flow->Shared->Prop}:
  ∀(f:Nat) {k:Nat} {ρ:Loc} {σ:a0} {μ:Mu} {h:Heap} {tk:Nat},ai G μ σ h->aE G μ sc ρ env h->bI G μ src k I fp h->bF G μ fp h->dm src nt B f k ρ σ K->Bx G K sc env fp μ h g d os R->
   aT (model G.prog G.w) A (.forLoop t (.ref I) body [] env) R ⟨h,g,d,tk,os⟩
 |0,_,_,_,_,_,_,_,_,_,_,e,_=>e.elim
 |f+1,k,ρ,σ,μ,h,tk,H,L,S,O,e,hR=>
  vj (tW hh T H L S O ap e (λz h' kk=>hR .next .next ρ _ _ _ _ z rfl (.off kk) (H.off O kk) (L.off ap kk)) λv vs s1 y q=>q y λh1 aK ρ1 b T1 H1 L1 S1 O1=>
   have nR:=hR.after T1 λ_ q=>q
   hB H1 L1 b g d aK os _ λfl fw ρ2 μ2 h2 b9 σ2 k2 r T2 H2 L2=>by
    have go:dm src nt B f (k+1) ρ2 σ2 K->aT (model G.prog G.w) A (.forLoop t (.ref I) body [] env) R ⟨h2,g,d,b9,os⟩:=λe2=>
     wF hh T nd ap hB f H2 L2 (S1.mG nd O1 ap T2) (O1.step T2) e2 (nR.after T2 λ_ q=> .inl q)
    cases fl with
    |next=>cases r;exact go k2
    |cont=>cases r;exact go k2
    |ret V=>exact let ⟨v,e,rv⟩:=r;e▸nR (.ret V) _ _ _ _ _ _ k2 ⟨v,rfl,rv⟩ T2.toF H2 L2)
theorem KS.after {K:KF} {g:Array GenState} {d:Drawn} {os:OsState} {Q:Flow->Shared->Prop} (q:KS G K sc env μ h g d os Q) (S:Step (di sc env) μ h μ' h'):KS G K sc env μ' h' g d os Q:=
 λfl f ρ' μ'' bW aH σ' k r T=>q fl f ρ' μ'' bW aH σ' k r (S.iX T)
noncomputable def CG (K:KV):Prop:= ∀V σ,K V σ-> ∃b,V= .bool b
theorem cH {v:AV} {P N:Prop} (e:jN v P N): ∃b,v= .bool b:=by
 cases v with
 |bool b=>exact ⟨b,rfl⟩
 |_=>exact e.elim
theorem qL {test:Expr} {body:List Stmt} {Tt:Loc->a0->KV->Prop} {B:Loc->a0->KF->Prop}
  (hT: ∀{ρ σ μ h K},ai G μ σ h->aE G μ sc ρ env h->CG K->Tt ρ σ K->AP G A (isTrue test env (eval test env)) μ h K)
  (hB: ∀{ρ σ μ h K},ai G μ σ h->aE G μ sc ρ env h->B ρ σ K->yp G A sc env (execs body env) μ h K) {K:KF} {g:Array GenState} {d:Drawn} {os:OsState} {R:Flow->Shared->Prop}:
  ∀(f:Nat) {ρ:Loc} {σ:a0} {μ:Mu} {h:Heap} {tk:Nat},ai G μ σ h->aE G μ sc ρ env h->d9 Tt B f ρ σ K->KS G K sc env μ h g d os R->
   aT (model G.prog G.w) A (.whileLoop test body [] env) R ⟨h,g,d,tk,os⟩
 |0,_,_,_,_,_,_,_,e,_=>e.elim
 |f+1,ρ,σ,μ,h,tk,H,L,e,hR=>
  codeD_while1 (hT H L (λV σ z=>cH z) e g d tk os _ λb μ1 h1 aK σ1 k1 T1 H1=>by
   have nR:=hR.after T1.gh
   cases b with
   |false=>exact nR .next .next ρ _ _ _ _ k1 rfl (.refl _ _ _) H1 (L.step T1)
   |true=>
    refine hB H1 (L.step T1) k1 g d aK os _ λfl fw ρ2 μ2 h2 b9 σ2 k2 r T2 H2 L2=> ?_
    have go:d9 Tt B f ρ2 σ2 K->aT (model G.prog G.w) A (.whileLoop test body [] env) R ⟨h2,g,d,b9,os⟩:=λe2=>qL hT hB f H2 L2 e2 (nR.after T2)
    cases fl with
    |next=>cases r;exact go k2
    |cont=>cases r;exact go k2
    |ret V=>exact let ⟨v,e,rv⟩:=r;e▸nR (.ret V) _ _ _ _ _ _ k2 ⟨v,rfl,rv⟩ T2 H2 L2)
end
structure i8 (G:Gl) (μ:Mu) (env:Env) (fp:List Addr) (D:Addr) (pre:List AV) (vs:Array Value) (h:Heap):Prop where
 out: ¬bJ μ D
 new:G.h0.get? D=none
 fp:D∉fp
 fr: ¬eK env D
 is:h.PlainList D vs
 vr:ae (VR G μ) pre vs.toList
section
variable {G:Gl} {A:Around} {μ μ' μ'':Mu} {σ σ':a0} {h h' bW:Heap} {sc:aO} {env:Env} {fp:List Addr} {D:Addr} {pre:List AV} {vs:Array Value}
theorem i8.step {own:Addr->Prop} (a:i8 G μ env fp D pre vs h) (S:Step own μ h μ' h') (n: ¬own D):i8 G μ' env fp D pre vs h':=
 let ⟨o,e⟩:=a.is
 ⟨S.fS e a.out,a.new,a.fp,a.fr,⟨o,S.keep _ _ n a.out e⟩,a.vr.uI S.pre⟩
theorem i8.own (a:i8 G μ env fp D pre vs h):bF G μ [D] h:=λx hx=>by
 rw [List.mem_singleton.mp hx]
 exact let ⟨o,e⟩:=a.is;⟨a.out,a.new,_,e⟩
noncomputable def zz (sc:aO) (env:Env) (D:Addr):Addr->Prop:=λx=>di sc env x∨x=D
noncomputable def xZ (G:Gl) (K:List AV->a0->Prop) (sc:aO) (env:Env) (fp:List Addr) (D:Addr) (μ:Mu) (h:Heap) (g:Array GenState) (d:Drawn) (os:OsState) (Q:Flow->Shared->Prop):Prop:=
 ∀xs μ' h' aH lU ρ' σ',K xs σ'->eM (zz sc env D) fp μ h μ' h'->ai G μ' σ' h'->aE G μ' sc ρ' env h'->i8 G μ' env fp D xs lU h'->Q .next ⟨h',g,d,aH,os⟩
theorem xZ.after {gO:Addr->Prop} {K:List AV->a0->Prop} {g:Array GenState} {d:Drawn} {os:OsState} {Q:Flow->Shared->Prop} (q:xZ G K sc env fp D μ h g d os Q) (S:Step gO μ h μ' h') (hs: ∀x,gO x->zz sc env D x∨x∈fp):xZ G K sc env fp D μ' h' g d os Q:=
 λxs μ'' bW aH lU ρ' σ' k T=>q xs μ'' bW aH lU ρ' σ' k (S.Bb T hs)
structure dS (G:Gl) (μ:Mu) (σ:a0) (sc:aO) (ρ:Loc) (env:Env) (src:cb) (k:Nat) (I:Addr) (fp:List Addr) (D:Addr) (pre:List AV) (vs:Array Value) (h:Heap):Prop where
 H:ai G μ σ h
 L:aE G μ sc ρ env h
 S:bI G μ src k I fp h
 O:bF G μ fp h
 a:i8 G μ env fp D pre vs h
variable {src:cb} {k:Nat} {I:Addr} {ρ:Loc}
theorem dS.step (W:dS G μ σ sc ρ env src k I fp D pre vs h) (T:Step aS μ h μ' h') (H:ai G μ' σ' h') (S:bI G μ' src k I fp h'):dS G μ' σ' sc ρ env src k I fp D pre vs h':=⟨H,W.L.step T,S,W.O.step T,W.a.step T λz=>z⟩
theorem dS.mG (W:dS G μ σ sc ρ env src k I fp D pre vs h) (nd:jE src=false) (ap: ∀x∈fp,¬eK env x) (T:Step aS μ h μ' h') (H:ai G μ' σ' h'):dS G μ' σ' sc ρ env src k I fp D pre vs h':=W.step T H (W.S.mG nd W.O ap (T.gh (sc:=sc)))
theorem dS.push (W:dS G μ σ sc ρ env src k I fp D pre vs h) {V:AV} {v:Value} (rv:VR G μ V v) (hn:vs.size<5000) {Q:Value->Shared->Prop} {g:Array GenState} {d:Drawn} {tk:Nat} {os:OsState}
  (q: ∀h' u aH,Step (· ∈ [D]) μ h μ h'->dS G μ σ sc ρ env src k I fp D (pre++ [V]) (vs.push v) h'->Q u ⟨h',g,d,aH,os⟩):ag (model G.prog G.w) A (call (.builtin "list.append") [.ref D,v]) Q ⟨h,g,d,tk,os⟩:=by
 have a:=W.a
 refine ao (wpAny_list_append_plain (s:=⟨h,g,d,tk,os⟩) a.is (λh4 z9 VC=> ?_) (by rw [sizeLine_eq];exact Qs hn))
 have kk: ∀b o,b∉ [D]->h.get? b=some o->h4.get? b=some o:=λb o hb e=>VC.extBut b o (λz=>hb (z▸ .head _)) e
 have nD: ∀{x},x∈ [D]->x=D:=List.mem_singleton.mp
 have T4:Step (· ∈ [D]) μ h μ h4:= .off kk λx hx=>let ⟨o,e⟩:=z9;⟨_,nD hx▸e⟩
 refine q _ _ _ T4 ⟨W.H.off a.own kk,W.L.off (λx hx=>nD hx▸a.fr) kk,W.S.move (List.prefix_refl _) (λx hx o e=>kk x o (λq=>a.fp (nD q▸hx)) e) (λ_ x o i e=>kk x o (λq=>a.out (nD q▸i)) e),W.O.step T4,a.out,a.new,a.fp,a.fr,z9, ?_⟩
 rw [Array.toList_push]
 exact ae.append (.cons rv .nil) a.vr
structure BR (G:Gl) (A:Around) (sc:aO) (env:Env) (pr:Bool) (elt:Expr) (ifs:List Expr) (Cd:Loc->a0->(Bool->a0->Prop)->Prop) (El:Loc->a0->KV->Prop):Prop where
 C: ∀{ρ σ μ h K},ai G μ σ h->aE G μ sc ρ env h->Cd ρ σ K->OL G A (mX ifs env) μ h K
 E: ∀{ρ σ μ h K},ai G μ σ h->aE G μ sc ρ env h->El ρ σ K->iZ G A (eval elt env) μ h K
 P:pr=true->ifs= []/\(∀{ρ σ K},Cd ρ σ K->K true σ)/\ ∀{ρ σ μ h K},ai G μ σ h->aE G μ sc ρ env h->El ρ σ K->o5 G A (eval elt env) μ h λV=>K V σ
theorem LF {src:cb} {p:Bool} (ok:l4 src p=true) (nd:jE src=true):p=true:=by
 cases src with
 |dct=>exact ok
 |_=>exact nomatch nd
theorem Fb (hh:A.handled=none) {t elt it:Expr} {ifs:List Expr} {scope:Scope} {pos:Pos} {nt:NT} (T:cL sc t nt) {Cd:Loc->a0->(Bool->a0->Prop)->Prop} {El:Loc->a0->KV->Prop} (ap: ∀x∈fp,¬eK env x)
  {pr:Bool} (ok:l4 src pr=true) (hP:BR G A sc env pr elt ifs Cd El) {K:List AV->a0->Prop} {g:Array GenState} {d:Drawn} {os:OsState} {R:Flow->Shared->Prop} (f:Nat):
  ∀{k:Nat} {ρ:Loc} {σ:a0} {μ:Mu} {h:Heap} {pre:List AV} {vs:Array Value} {tk:Nat},dS G μ σ sc ρ env src k I fp D pre vs h->vs.size+f≤5000->
  bE src nt Cd El f k pre ρ σ K->xZ G K sc env fp D μ h g d os R->
   aT (model G.prog G.w) A (.compLoop (.ListComp elt [⟨t,it,ifs,0⟩] scope pos) 0 (.ref I) (.ref D) env) R ⟨h,g,d,tk,os⟩:=by
 induction f with
 |zero=>exact λ_ _ e _=>e.elim
 |succ f ih=>
  intro k ρ σ μ h pre vs tk W n e hR
  refine sL (tW hh T W.H W.L W.S W.O ap e (λz h' kk=>hR _ _ _ _ vs ρ _ z (.off kk) (W.H.off W.O kk) (W.L.off ap kk) ?_) λv ws s1 y q=>q y λh1 aK ρ1 b T1 H1 L1 S1 O1=> ?_)
  ·exact let ⟨o,eo⟩:=W.a.is;⟨W.a.out,W.a.new,W.a.fp,W.a.fr,⟨o,kk _ _ W.a.fp eo⟩,W.a.vr⟩
  have W1:dS G μ σ sc ρ1 env src (k+1) I fp D pre vs h1:=⟨H1,L1,S1,O1,W.a.step T1 λz=>z.elim (λz=>W.a.fr z.all) W.a.fp⟩
  have nR:=hR.after T1 λx q=>q.imp .inl id
  --what is left once the item's value is there
  have tail: ∀{μ3:Mu} {h3:Heap} {iu:Nat} {V:AV} {v:Value} {σ2:a0},dS G μ3 σ2 sc ρ1 env src (k+1) I fp D pre vs h3->xZ G K sc env fp D μ3 h3 g d os R->VR G μ3 V v->bE src nt Cd El f (k+1) (pre++ [V]) ρ1 σ2 K->
    ag (model G.prog G.w) A (call (.builtin "list.append") [.ref D,v]) (λ_ s6=>aT (model G.prog G.w) A (.compLoop (.ListComp elt [⟨t,it,ifs,0⟩] scope pos) 0 (.ref I) (.ref D) env) R s6) ⟨h3,g,d,iu,os⟩:=
   λ{μ3 h3 iu V v σ2} W3 VD rv er=>W3.push rv (Nat.lt_of_lt_of_le (Nat.lt_add_of_pos_right (Nat.succ_pos f)) n) λh4 u Dt T4 W4=>ih W4 (by rw [Array.size_push,Nat.succ_add];exact n) er (VD.after T4 λx q=> .inl (.inr (List.mem_singleton.mp q)))
  cases nd:jE src with
  |false=>
   refine hP.C H1 L1 b g d aK os _ λc μ2 h2 b9 σ1 k1 T2 H2=> ?_
   have W2:=W1.mG nd ap T2 H2
   have Q6:=nR.after T2 λ_ q=>q.elim
   cases c with
   |false=>exact ih W2 (Nat.le_of_succ_le n) k1 Q6
   |true=>exact hP.E H2 W2.L k1 g d b9 os _ λv V μ3 h3 iu σ2 k3 rv T3 H3=>tail (W2.mG nd ap T3 H3) (Q6.after T3 λ_ q=>q.elim) rv k3
  |true=>
   obtain ⟨rfl,p2,p3⟩:=hP.P (LF ok nd)
   exact ah (a:=true) (p3 H1 L1 (p2 b) g d aK os _ λv V iu k3 rv=>tail W1 nR rv k3)
end
theorem t7: ∀s∈aN,(nm s).cps.all (· <128)=true:=by decide+kernel
theorem yb: ∀s∈aN,(nm s).cps.toList=s.toList.map Char.toNat:=by decide+kernel
section
variable {G:Gl} {A:Around} {μ μ' μ'':Mu} {σ σ':a0} {h h' bW:Heap} {fp:List Addr} {src:cb} {k:Nat} {I:Addr}
theorem bF.fresh (H:ai G μ σ h) (hn: ∀x∈fp,h.get? x=none) (hl: ∀x∈fp,∃o,h'.get? x=some o):bF G μ fp h':=λx hx=>
 ⟨λi=>let ⟨o,e⟩:=H.live i;(nomatch (hn x hx).symm.trans e),H.none_of (hn x hx),hl x hx⟩
theorem DN (S:bI G μ src k I fp h) {Q:Value->Shared->Prop} {E:Value->Shared->Prop} {g:Array GenState} {d:Drawn} {tk:Nat} {os:OsState} (q:Q (.ref I) ⟨h,g,d,tk,os⟩):
  wpAny (model G.prog G.w) A (pyIter (.ref I)) Q E ⟨h,g,d,tk,os⟩:=by
 cases S with
 |lst b hb hi=>exact wpAny_pyIter_listiter (s:=⟨h,g,d,tk,os⟩) hi q
 |tup b hb hi=>exact wpAny_pyIter_tupleiter (s:=⟨h,g,d,tk,os⟩) hi q
 |str x t hi=>exact wpAny_pyIter_striter_ascii (s:=⟨h,g,d,tk,os⟩) hi q
 |byt b t hi=>exact KBw.pyIter_self (s:=⟨h,g,d,tk,os⟩) hi q
 |rng n hi=>exact wpAny_pyIter_rangeiter (s:=⟨h,g,d,tk,os⟩) hi q
 |dct d es ep hd hi hr ha=>exact wpAny_pyIter_keyiter (s:=⟨h,g,_,tk,os⟩) hi q
 |zip TI TO i1 i2 b1 b2 nd h1 h2 hz nQ jT l1 l2=>exact wpAny_pyIter_zip (s:=⟨h,g,d,tk,os⟩) hz q
theorem yD {es:List (AV×AV)} {bq:List (FK×Value)} {l:List DictEntry} (q:es.all (λe=>rK e.1)=true) (a:ae (jC G μ) es bq) (p:Pairs (bR G.prog G.w) l bq):ae (VR G μ) (es.map (·.1)) (l.map (·.key)):=by
 cases a with
 |nil=>cases p;exact .nil
 | @cons e _ _ _ a _=>
  obtain ⟨K,V⟩:=e
  have a1:=a.1
  cases K<;>first|exact absurd (Bool.and_eq_true_iff.mp q).1 Bool.false_ne_true|exact nomatch a1
theorem zx {es:List (AV×AV)} {xs:List (List FK×Addr×Value)} (a:ae (dZ G μ σ) es xs):ae (VR G μ) (es.map (·.1)) (xs.map ((·.key)∘entryOfKey (dA G))):=by
 induction a with
 |nil=>exact .nil
 |cons a b ih=>
  refine .cons ?_ ih
  obtain ⟨n,b,ys,e1,e2,e3,e4,e5,e6⟩:=a
  show VR G μ (Prod.fst _) (.ref _)
  rw [e1,e5]
  exact ⟨b,e2,rfl⟩
theorem wx {es:List (AV×AV)} {b:bu} (all:es.all (λe=>rK e.1)=true) (r:dH G μ σ (.dict es) b h): ∃ens ep,dB h b.a ens ep/\ae (VR G μ) (es.map (·.1)) (ens.toList.map (·.key)):=by
 rcases r with ⟨bq,⟨ob,ens,ep,e1,e2,e3,e4,e5,e6⟩,ha⟩|⟨ob,ens,ep,xs,e1,e2,e3,e4,ha,hn⟩
 ·exact ⟨ens,ep,⟨ob,e1,e2,e3⟩,yD all ha e5⟩
 ·refine ⟨ens,ep,⟨ob,e1,e2,e3⟩, ?_⟩
  rw [e4,List.map_map]
  exact zx ha
noncomputable def KI (G:Gl) (P:cb->Prop) (μ:Mu) (h:Heap) (g:Array GenState) (d:Drawn) (os:OsState) (Q:Value->Shared->Prop):Prop:=
 ∀src I fp h' aH,P src->bI G μ src 0 I fp h'->(∀x∈fp,h.get? x=none)->(∀x o,h.get? x=some o->h'.get? x=some o)->Q (.ref I) ⟨h',g,d,aH,os⟩
theorem KI.one {P:cb->Prop} {g:Array GenState} {d:Drawn} {os:OsState} {Q:Value->Shared->Prop} (q:KI G P μ h g d os Q) {ob:Obj} {tk:Nat} (hf:ob.isFreed=false) (p:P src) (S:(h.push ob).get? h.objs.size=some ob->bI G μ src 0 h.objs.size [h.objs.size] (h.push ob)):Q (.ref h.objs.size) ⟨h.push ob,g,d,tk,os⟩:=
 q _ _ _ _ _ p (S (Heap.get?_push_size _ hf)) (λx hx=>List.mem_singleton.mp hx▸Heap.get?_none_of_le (Nat.le_refl _)) λx o e=>Heap.get?_push_of_some _ e
theorem DX (K:dd G) (H:ai G μ σ h) {V:AV} {v:Value} (r:VR G μ V v) {P:cb->Prop} (e:oB (fk .of [V] σ) P) {Q:Value->Shared->Prop} {E:Value->Shared->Prop} {g:Array GenState} {d:Drawn} {tk:Nat} {os:OsState}
  (q:KI G P μ h g d os Q):wpAny (model G.prog G.w) A (pyIter v) Q E ⟨h,g,d,tk,os⟩:=by
 cases V with
 |ref n=>
  obtain ⟨b,hb,rfl⟩:=r
  obtain ⟨o,ho,e⟩:=eO e
  cases o with
  |list xs=>
   obtain ⟨vs,hl,ha⟩:=H.obj ho hb
   exact wpAny_pyIter_list (s:=⟨h,g,d,tk,os⟩) hl.isList (q.one rfl e λz=> .lst b hb ⟨_,z,rfl,rfl⟩)
  |tup xs=>
   obtain ⟨vs,hl,ha⟩:=H.obj ho hb
   exact wpAny_pyIter_tuple (s:=⟨h,g,d,tk,os⟩) hl (q.one rfl e λz=> .tup b hb ⟨_,z,rfl,rfl⟩)
  |dict es=>
   obtain ⟨sC,e⟩:=bG e
   obtain ⟨ens,ep,hr,ha⟩:=wx sC (H.obj ho hb)
   exact vx (s:=⟨h,g,d,tk,os⟩) (H.l7 K (List.mem_of_getElem? hb)) hr (q.one rfl e λz=> .dct b.a ens ep (cc hb).1 ⟨_,z,rfl,rfl⟩ (hr.at λo e=>Heap.get?_push_of_some _ e) ha)
  |_=>exact e.elim
 |str c=>
  obtain ⟨s,t,hs,rfl⟩:=r
  have JV:=List.mem_of_getElem? hs
  have ec:kj c=(nm s).cps.toList:=by unfold kj;rw [hs,yb s JV]
  exact wpAny_pyIter_ascii (s:=⟨h,g,d,tk,os⟩) (t7 s JV) (q.one rfl (ec▸e) λz=> .str (nm s) t ⟨_,z,rfl,rfl⟩)
 |bytes l=>
  obtain ⟨b,t,rfl,rfl⟩:=r
  have ec:(b.toList.map UInt8.toNat).map (λx=>AV.int (x:Nat))=b.toList.map λc=> .int (c.toNat:Nat):=List.map_map ..
  exact KBw.pyIter_bytes (s:=⟨h,g,d,tk,os⟩) (q.one rfl (ec▸e) λz=> .byt b t ⟨_,z,rfl,rfl⟩)
 |_=>exact e.elim
end
theorem uQ {α β:Type} {f:Str->α->β} {l:List (Str×α)} {x:Str}:(l.map λp=>(p.1,f p.1 p.2)).lookup x=(l.lookup x).map (f x):=by
 induction l with
 |nil=>rfl
 |cons p l ih=>
  rw [List.map_cons,List.lookup_cons,List.lookup_cons,ih]
  cases hx:x==p.1 with
  |true=>rw [beq_iff_eq.mp hx];rfl
  |false=>rfl
theorem nX (env:Env) (names:List (Str×NameKind)) (x:Str):
  (names.map λ(n,k)=>if (k==NameKind.free&&env.scope.kind== .function&&env.kindOf n==some .cell) then (n,NameKind.cell) else (n,k)).lookup x=
  (names.lookup x).map λk=>if (k==NameKind.free&&env.scope.kind== .function&&env.kindOf x==some .cell) then NameKind.cell else k:=by
 refine Eq.trans (congrArg _ (List.map_congr_left λp _=> ?_)) (uQ (f:=λn k=>if (k==NameKind.free&&env.scope.kind== .function&&env.kindOf n==some .cell) then NameKind.cell else k))
 exact (apply_ite (Prod.mk p.1) _ _ _).symm
theorem xq {α:Type} {l:List (Str×α)} {p:Str×α} {n:Str} {c:α} (e:(p::l).lookup n=some c):(n=p.1/\p.2=c)∨l.lookup n=some c:=by
 rw [List.lookup_cons] at e
 cases hb:n==p.1 with
 |true=>rw [hb] at e;exact .inl ⟨beq_iff_eq.mp hb,Option.some.inj e⟩
 |false=>rw [hb] at e;exact .inr e
theorem je {α:Type} {l:List (Str×α)} {n:Str} {c:α}:((n,c)::l).lookup n=some c:=by rw [List.lookup_cons,beq_self_eq_true]
theorem rS {α:Type} {l:List (Str×α)} {p:Str×α} {n:Str} {c:α} (e:l.lookup n=some c): ∃c,(p::l).lookup n=some c:=by
 rw [List.lookup_cons]
 cases n==p.1 with
 |true=>exact ⟨_,rfl⟩
 |false=>exact ⟨c,e⟩
theorem vU {env:Env} (names:List (Str×NameKind)): ∀(acc:List (Str×Addr)),(∀x∈names,x.2= .free-> ∃c,env.cells.lookup x.1=some c)->(∀n c,acc.lookup n=some c->env.cells.lookup n=some c)->
  ∃cl,(forIn names acc (λ(x:Str×NameKind) (cs:List (Str×Addr))=>(if x.2==NameKind.free then (do let a←cellOf env x.1;pure (ForInStep.yield ((x.1,a)::cs))) else pure (ForInStep.yield cs):Sem (ForInStep (List (Str×Addr))))):Sem _)=pure cl/\
   (∀n c,cl.lookup n=some c->env.cells.lookup n=some c)/\(∀n,(n,NameKind.free)∈names∨(∃c,acc.lookup n=some c)-> ∃c,cl.lookup n=some c):=by
 induction names with
 |nil=>exact λacc _ h=>⟨acc,List.forIn_nil,h,λn z=>z.elim (λz=>nomatch z) id⟩
 |cons p r ih=>
  intro acc hc h
  rw [List.forIn_cons]
  by_cases hk:p.2= .free
  ·obtain ⟨c,e⟩:=hc p (.head _) hk
   obtain ⟨cl,h1,h2,h3⟩:=ih ((p.1,c)::acc) (λx hx=>hc x (.tail _ hx)) (λm c' q=>(xq q).elim (λ⟨a,b⟩=>a▸b▸e) (h m c'))
   refine ⟨cl, ?_,h2,λm z=>h3 m (z.elim (λz=> ?_) λ⟨c',z⟩=> .inr (rS z))⟩
   ·have q:cellOf env p.1=pure c:=by unfold cellOf;rw [e]
    rw [if_pos (beq_iff_eq.mpr hk),q]
    exact h1
   ·cases z with
    |head=>exact .inr ⟨c,je⟩
    |tail _ z=>exact .inl z
  ·obtain ⟨cl,h1,h2,h3⟩:=ih acc (λx hx=>hc x (.tail _ hx)) h
   refine ⟨cl, ?_,h2,λm z=>h3 m (z.imp_left λz=> ?_)⟩
   ·rw [if_neg λz=>hk (beq_iff_eq.mp z)]
    exact h1
   ·cases z with
    |head=>exact absurd rfl hk
    |tail _ z=>exact z
theorem pC {env:Env} {scope:Scope} (hc: ∀x∈scope.names,x.2= .free-> ∃c,env.cells.lookup x.1=some c):
  ∃cl,closureFor scope env=pure cl/\(∀n c,cl.lookup n=some c->env.cells.lookup n=some c)/\(∀n,(n,NameKind.free)∈scope.names-> ∃c,cl.lookup n=some c):=
 let ⟨cl,h1,h2,h3⟩:=vU scope.names [] hc (λn c q=>nomatch q)
 ⟨cl,congrArg (· >>=pure) h1,h2,λn z=>h3 n (.inl z)⟩
section
variable {G:Gl} {A:Around} {μ μ' μ1:Mu} {σ σ':a0} {h h' h1 h0:Heap} {sc:aO} {ρ:Loc} {env:Env} {fp:List Addr} {own:Addr->Prop}
theorem eM.closeAll (S:eM own fp μ1 h1 μ' h') (S0:Step aS μ h0 μ1 h1) (ho: ∀x,own x->h0.get? x=none) (hf: ∀x∈fp,h0.get? x=none):Step aS μ h0 μ' h':=
 ⟨S0.pre.trans S.pre,λx i=>(S.new x i).elim (S0.new x) λe=> .inr (S0.none_of e),
  λx o _ i e=>S.keep x o (λq=>nomatch (ho x q).symm.trans e) (λq=>nomatch (hf x q).symm.trans e) (S0.fS e i) (S0.keep x o (λq=>q) i e),
  λx o e=>let ⟨_,e'⟩:=S0.live x o e;S.live _ _ (λq=>nomatch (hf x q).symm.trans e) e'⟩
noncomputable def FW (G:Gl) (P:cb->a0->Prop) (μ:Mu) (h:Heap) (g:Array GenState) (d:Drawn) (os:OsState) (Q:Value->Shared->Prop):Prop:=
 ∀src I fp μ' h' aH σ',P src σ'->Step aS μ h μ' h'->ai G μ' σ' h'->bI G μ' src 0 I fp h'->bF G μ' fp h'->(∀x∈fp,h.get? x=none)->Q (.ref I) ⟨h',g,d,aH,os⟩
noncomputable def Ci (G:Gl) (A:Around) (t:Sem Value) (μ:Mu) (h:Heap) (P:cb->a0->Prop):Prop:=
 ∀(g:Array GenState) (d:Drawn) (tk:Nat) (os:OsState) (Q:Value->Shared->Prop),FW G P μ h g d os Q->ag (model G.prog G.w) A t (λv s1=>ag (model G.prog G.w) A (pyIter v) Q s1) ⟨h,g,d,tk,os⟩
theorem vJ {inner:aO} {x:Nat} (h:(freeOf inner).contains x=true): ∃p∈inner,p.2= .free/\aM p.1=some x:=by
 obtain ⟨p,hp,e⟩:=List.mem_filterMap.mp (List.contains_iff_mem.mp h)
 by_cases hk:p.2= .free
 ·rw [if_pos (beq_iff_eq.mpr hk)] at e;exact ⟨p,hp,hk,e⟩
 ·rw [if_neg λz=>hk (beq_iff_eq.mp z)] at e;exact nomatch e
structure gA (sc inner:aO):Prop where
 loc: ∀p∈inner,p.2= .local->inner.lookup p.1=some .local
 free: ∀p∈inner,p.2= .free->(sc.lookup p.1=some .cell∨sc.lookup p.1=some .free)/\inner.lookup p.1=some .free
 noCell: ∀p∈inner,p.2≠ .cell
theorem oH {sc inner:aO} (h:qu sc inner=true):gA sc inner:=by
 have h:=List.all_eq_true.mp h
 refine ⟨λp hp e=> ?_,λp hp e=> ?_,λp hp e=> ?_⟩
 ·have h:=h p hp
  rw [e] at h
  exact beq_iff_eq.mp h
 ·have h:=h p hp
  rw [e] at h
  have h:=Bool.and_eq_true_iff.mp (Bool.and_eq_true_iff.mp h).1
  exact ⟨(Bool.or_eq_true_iff.mp h.1).imp beq_iff_eq.mp beq_iff_eq.mp,beq_iff_eq.mp h.2⟩
 ·have h:=h p hp
  rw [e] at h
  exact nomatch h
theorem vB (L:lu sc env) {scope:Scope} (hk:scope.kind= .function) (C:gA sc scope.names) {cl:List (Str×Addr)} {c:Addr}:lu scope.names (compEnvC scope cl c env):=by
 have lk: ∀{x k},scope.names.lookup x=some k->(compEnvC scope cl c env).kindOf x=some (if (k==NameKind.free&&env.scope.kind== .function&&env.kindOf x==some .cell) then NameKind.cell else k):=λ{x k} e=>(nX env scope.names x).trans (congrArg _ e)
 refine ⟨hk,λx e=>lk e,λx e=> ?_,λx e=>lk e,L.globals,L.builtins⟩
 rcases e with e|e
 ·exact absurd rfl (C.noCell _ (PySem.mem_of_lookup e))
 ·rw [lk e]
  split
  ·exact .inl rfl
  ·exact .inr rfl
theorem DG (L:aE G μ sc ρ env h) {scope:Scope} (hk:scope.kind= .function) (C:gA sc scope.names) {cl:List (Str×Addr)} (c1: ∀n c,cl.lookup n=some c->env.cells.lookup n=some c)
  (c2: ∀n,(n,NameKind.free)∈scope.names-> ∃c,cl.lookup n=some c) {c:Addr} {m:Str->Option Value} (hn:h.Ns c m) (out: ¬bJ μ c) (new:G.h0.get? c=none) (hc: ∀n a,env.cells.lookup n=some a->a≠c):
  aE G μ scope.names (only ρ (freeOf scope.names)) (compEnvC scope cl c env) h:=by
 refine ⟨vB L.ok hk C,⟨m,hn,λx v e=> ?_⟩,out,new,λx e=>e.elim (λe=>absurd rfl (C.noCell _ (PySem.mem_of_lookup e))) λe=>c2 x (PySem.mem_of_lookup e),λx a e=>have z:=L.cell x a (c1 _ _ e);⟨z.out,z.new,hc x a (c1 _ _ e),z.is⟩,λx y a e1 e2=>L.inj x y a (c1 _ _ e1) (c1 _ _ e2)⟩
 by_cases hx:(freeOf scope.names).contains x=true
 ·have e:ρ x=some v:=(if_pos hx).symm.trans e
  obtain ⟨⟨n,k⟩,hp,rfl,wc⟩:=vJ hx
  obtain ⟨s,hs,VE⟩:=bp wc
  obtain ⟨m',lT,hv⟩:=L.val
  obtain ⟨f1,f2⟩:=C.free _ hp rfl
  have en: ∀{s'},aN[x]?=some s'->nm s'=n:=λq=>Option.some.inj (hs.symm.trans q)▸VE
  cases hv x v e with
  |loc s' u cv q1 _ _=>rw [en cv] at q1;exact f1.elim (λf=>nomatch f.symm.trans q1) λf=>nomatch f.symm.trans q1
  |cell s' a u cv _ q2 q3 q4=>
   obtain ⟨a',Q7⟩:=c2 n hp
   rw [en cv] at q2
   exact .cell s' a u cv (.inr ((en cv).symm▸f2)) ((en cv).symm▸Option.some.inj ((c1 _ _ Q7).symm.trans q2)▸Q7) q3 q4
 ·exact nomatch (if_neg hx).symm.trans e
theorem Ac (L:aE G μ sc ρ env h) (H:ai G μ σ h) {src:cb} {I:Addr} (S:bI G μ src 0 I fp h) (O:bF G μ fp h) {scope:Scope} (hk:scope.kind= .function) (C:gA sc scope.names) {cl:List (Str×Addr)} (c1: ∀n c,cl.lookup n=some c->env.cells.lookup n=some c)
  (c2: ∀n,(n,NameKind.free)∈scope.names-> ∃c,cl.lookup n=some c) {c D:Addr} {m:Str->Option Value} (k: ∀x o,h.get? x=some o->h'.get? x=some o) (hn:h'.Ns c m) (hD:h'.PlainList D #[]) (nc:h.get? c=none) (nD:h.get? D=none) (ne:D≠c)
  (ap: ∀x∈fp,¬eK env x):dS G μ σ scope.names (only ρ (freeOf scope.names)) (compEnvC scope cl c env) src 0 I fp D [] #[] h'/\ ∀x∈fp,¬eK (compEnvC scope cl c env) x:=
 have lv: ∀{x y:Addr},h.get? y=none->(∃o,h.get? x=some o)->x≠y:=λn l z=>by subst z;exact let ⟨_,e⟩:=l;nomatch n.symm.trans e
 have nb: ∀{y},h.get? y=none-> ¬bJ μ y:=λn i=>lv n (H.live i) rfl
 have ce: ∀{y},h.get? y=none-> ∀n a,env.cells.lookup n=some a->a≠y:=λny n a e=>lv ny (let ⟨_,hi⟩:=(L.cell n a e).is;fB hi)
 have fl: ∀{y},h.get? y=none-> ∀x∈fp,x≠y:=λny x hx=>lv ny (O x hx).2.2
 ⟨⟨H.grown k,DG (L.grown k) hk C c1 c2 hn (nb nc) (H.none_of nc) (ce nc),S.move (List.prefix_refl μ) (λx _ o e=>k x o e) λ_ x o _ e=>k x o e,O.step (Step.grown aS (μ:=μ) k),
  nb nD,H.none_of nD,λz=>fl nD _ z rfl,λz=>z.elim ne λ⟨n,z⟩=>ce nD n _ (c1 _ _ z) rfl,hD, .nil⟩,λx hx z=>z.elim (fl nc x hx) λ⟨n,z⟩=>ap x hx (.inr ⟨n,c1 _ _ z⟩)⟩
theorem zG {D c:Addr} {xs:List AV} {vs:Array Value} {scope:Scope} {cl:List (Str×Addr)} {ρ':Loc} (C:gA sc scope.names) (H:ai G μ' σ h') (L:aE G μ' scope.names ρ' (compEnvC scope cl c env) h') (a:i8 G μ' (compEnvC scope cl c env) fp D xs vs h')
  (T:eM (zz scope.names (compEnvC scope cl c env) D) fp μ1 h1 μ' h') (T1:Step aS μ h μ1 h1) (nc:h.get? c=none) (nD:h.get? D=none) (ne:D≠c) (hf: ∀x∈fp,h.get? x=none):
  VR G (μ'++ [⟨D,D⟩]) (.ref σ.n) (.ref D)/\Step aS μ h (μ'++ [⟨D,D⟩]) h'/\ai G (μ'++ [⟨D,D⟩]) (σ.new (.list xs)) h'/\ ¬bJ (μ'++ [⟨D,D⟩]) c:=by
 have T0:=T.closeAll T1 (λx z=>z.elim (λz=>z.elim (λz=>z▸nc) λ⟨n,z,_⟩=>absurd rfl (C.noCell _ (PySem.mem_of_lookup z))) λz=>z▸nD) hf
 obtain ⟨n4,e4⟩:=a.is
 exact ⟨iK H ⟨D,D⟩,⟨T0.pre.trans ⟨_,rfl⟩,λx i=>(dT i).elim (T0.new x) λz=> .inr ((z.elim id id:x=D)▸nD),T0.keep,T0.live⟩,
  H.adopt (b:=⟨D,D⟩) (o:= .list xs) a.out a.out a.new a.new ⟨_,e4⟩ ⟨_,e4⟩ ⟨vs,a.is,a.vr.uI ⟨_,rfl⟩⟩,λi=>(dT i).elim L.outL λz=>ne (z.elim id id:c=D).symm⟩
theorem GN {nt:NT} {Cd:Loc->a0->(Bool->a0->Prop)->Prop} {El:Loc->a0->KV->Prop} {p:Bool} {K:KV} {s:cb} (e:jW nt Cd El p ρ σ K s):l4 s p=true/\bE s nt Cd El turns 0 [] ρ σ (Im K):=by
 unfold jW at e
 cases ok:l4 s p with
 |true=>rw [ok] at e;exact ⟨rfl,e⟩
 |false=>rw [ok] at e;exact e.elim
theorem zj (hh:A.handled=none) {t elt it:Expr} {ifs:List Expr} {scope:Scope} {pos p:Pos} {nt:NT} (T:cL scope.names t nt) (hk:scope.kind= .function) (C:gA sc scope.names)
  {Cd:Loc->a0->(Bool->a0->Prop)->Prop} {El:Loc->a0->KV->Prop} {pr:Bool} {K:KV} (L:aE G μ sc ρ env h)
  (hI:Ci G A (eval it env) μ h λsrc σ=>jW nt Cd El pr (only ρ (freeOf scope.names)) σ K src) (hs: ∀x,foldedSetIterable it env x=pure x)
  (hP: ∀cl a,BR G A scope.names (compEnvC scope cl a env) pr elt ifs Cd El) {use:Option (Value->Sem Unit)} {g:Array GenState} {d:Drawn} {tk:Nat} {os:OsState} {Q:Value->Shared->Prop}
  (q: ∀V acc a μ' h' aH m σ',K V σ'->VR G μ' V acc->Step aS μ h μ' h'->ai G μ' σ' h'->h'.Ns a m-> ¬bJ μ' a->G.h0.get? a=none->h.get? a=none->ig (model G.prog G.w) A use Q acc a ⟨h',g,d,aH,os⟩):
  ag (model G.prog G.w) A (comprehension (.ListComp elt [⟨t,it,ifs,0⟩] scope pos) scope env p (newList []) false (eval it env) use) Q ⟨h,g,d,tk,os⟩:=by
 obtain ⟨cl,JP,c1,c2⟩:=pC (env:=env) (scope:=scope) λx hx e=>L.has _ (C.free x hx e).1
 refine lA (g:=⟨t,it,ifs,0⟩) (gs:= []) rfl hs JP hk C.loc (hI g d tk os _ λsrc I fp μ1 h1 aK σ1 e T1 H1 S1 O1 JW=> ?_)
 have L1:=L.step T1
 refine ao (wpAny_newObj_type (s:=⟨h1,g,d,aK,os⟩) (ao (wpAny_newFunctionEnv (s:=⟨h1.push _,g,d,aK,os⟩) C.noCell (λy hy=>absurd hy List.not_mem_nil) (λh3 VF uF=> ?_) hk)))
 have up: ∀x o,(h1.push {cls:= .type "list",dict:=none,data:= .seq ([]:List Value).toArray}).get? x=some o->h3.get? x=some o:=λx o e=>uF.extBut x o (Nat.ne_of_lt (Heap.lt_size e)) (Heap.get?_push_of_some _ e)
 have Q8: ∀x o,h1.get? x=some o->h3.get? x=some o:=λx o e=>up _ _ (Heap.get?_push_of_some _ e)
 have nD:h1.get? h1.objs.size=none:=Heap.get?_none_of_le (Nat.le_refl _)
 have sz:(h1.push {cls:= .type "list",dict:=none,data:= .seq ([]:List Value).toArray}).objs.size=h1.objs.size+1:=Heap.size_push ..
 have nc:h1.get? (h1.push {cls:= .type "list",dict:=none,data:= .seq ([]:List Value).toArray}).objs.size=none:=Heap.get?_none_of_le (sz▸Nat.le_succ _)
 have ne:h1.objs.size≠(h1.push {cls:= .type "list",dict:=none,data:= .seq ([]:List Value).toArray}).objs.size:=sz▸Nat.ne_of_lt (Nat.lt_succ_self _)
 have hl:h3.PlainList h1.objs.size #[]:=⟨_,up _ _ (Heap.get?_push_size _ rfl)⟩
 generalize (h1.push {cls:= .type "list",dict:=none,data:= .seq ([]:List Value).toArray}).objs.size=c at*
 obtain ⟨W,ap⟩:=Ac L1 H1 S1 O1 hk C c1 c2 Q8 VF hl nc nD ne λx hx z=>z.elim (λe=>let ⟨_,hn,_⟩:=L.val;let ⟨o,ho⟩:=lb hn;by subst e;exact nomatch (JW _ hx).symm.trans ho) λ⟨n,e⟩=>let ⟨_,hi⟩:=(L.cell n x e).is;let ⟨o,ho⟩:=fB hi;nomatch (JW x hx).symm.trans ho
 have loop: ∀aH,aT (model G.prog G.w) A (.compLoop (.ListComp elt [⟨t,it,ifs,0⟩] scope pos) 0 (.ref I) (.ref h1.objs.size) (compEnvC scope cl c env))
   (λ_=>ig (model G.prog G.w) A use Q (.ref h1.objs.size) c) ⟨h3,g,d,aH,os⟩:=λaH=>by
  obtain ⟨ok,e⟩:=GN e
  refine Fb hh T ap ok (hP cl _) turns W (by rw [aP];exact Nat.le_refl _) e λxs μ4 h4 Dt Wg ρ4 σ4 k4 T4 H4 L4 a4=> ?_
  obtain ⟨r1,r2,r3,r4⟩:=zG C H4 L4 a4 T4 (T1.andThen (.grown _ Q8)) (T1.none_of nc) (T1.none_of nD) ne JW
  obtain ⟨m4,VG,_⟩:=L4.val
  exact q _ _ _ _ _ _ m4 _ k4 r1 r2 r3 VG r4 L4.newL (T1.none_of nc)
 exact mB (loop _) (ao (DN W.S (loop _)))
theorem rm (H:ai G μ' σ h') (T:Step aS μ h μ' h') {a:Addr} {bW:Heap} (hs:Heap.SameBut a h' bW) (na:h.get? a=none) (out: ¬bJ μ' a) (g0:G.h0.get? a=none):Step aS μ h μ' bW/\ai G μ' σ bW:=
 have ne: ∀{x o},h.get? x=some o->x≠a:=λe z=>by subst z;exact nomatch na.symm.trans e
 ⟨⟨T.pre,T.new,λx o n i e=>(hs.2 x (ne e)).trans (T.keep x o n i e),λx o e=>let ⟨o',e'⟩:=T.live x o e;⟨o',(hs.2 x (ne e)).trans e'⟩⟩,H.gX hs out g0⟩
end
theorem oU {α:Type} {l:List (Str×α)} {p:Str} (h:p∉l.map (·.1)):l.lookup p=none:=by
 cases e:l.lookup p with
 |none=>rfl
 |some c=>exact absurd (List.mem_map_of_mem (f:=(·.1)) (PySem.mem_of_lookup e)) h
theorem B4 {α:Type} {l m:List (Str×α)} {p:Str} (h:p∉l.map (·.1)):(l++m).lookup p=m.lookup p:=by
 rw [List.lookup_append,oU h];rfl
theorem o9 {α:Type} {ps:List Str} {ws:List α} (h:ps.length=ws.length):(ps.zip ws).map (·.1)=ps:=List.map_fst_zip (Nat.le_of_eq h)
theorem qC {α:Type} {ps:List Str} {ws:List α} (hl:ps.length=ws.length) (nd:ps.Nodup):ae (λp w=> ∀r:List (Str×α),(ps.zip ws++r).lookup p=some w) ps ws:=by
 suffices k: ∀(pre:List (Str×α)),(∀p∈ps,p∉pre.map (·.1))->ae (λp w=> ∀r:List (Str×α),(pre++(ps.zip ws++r)).lookup p=some w) ps ws from k [] λ_ _ z=>nomatch z
 induction ps generalizing ws with
 |nil=>cases ws with
  |nil=>exact λ_ _=> .nil
  |cons=>exact nomatch hl
 |cons p ps ih=>cases ws with
  |nil=>exact nomatch hl
  |cons w ws=>
   intro pre hn
   obtain ⟨n1,n2⟩:=List.nodup_cons.mp nd
   refine .cons (λr=>(B4 (hn p (.head _))).trans je) ((ih (Nat.succ.inj hl) n2 (pre++ [(p,w)]) λq hq=> ?_).imp λa b z r=> ?_)
   ·rw [List.map_append]
    exact λz=>(List.mem_append.mp z).elim (hn q (.tail _ hq)) λz=>n1 ((List.mem_singleton.mp z:q=p)▸hq)
   ·rw [←z r,List.append_assoc];rfl
theorem H9 {α:Type} {L:List (Str×α)} {ps:List Str} {ws:List α} (h:ae (λp w=>L.lookup p=some w) ps ws):ps.filterMap (λn=>(L.lookup n).map λx=>(n,x))=ps.zip ws:=by
 induction h with
 |nil=>rfl
 |cons a b ih=>rw [List.filterMap_cons,a,ih];rfl
theorem ae.mem {α β:Type} {R:α->β->Prop} {l:List α} {m:List β} (h:ae R l m) {a:α} (ha:a∈l): ∃b,R a b:=by
 induction h with
 |nil=>exact nomatch ha
 |cons h _ ih=>cases ha with
  |head=>exact ⟨_,h⟩
  |tail _ ha=>exact ih ha
section
variable {M:Model} {A:Around} {E:Value->Shared->Prop} {s:Shared}
theorem eC {α:Type} {c:Prop} [Decidable c] {x y:Sem α} {Q:α->Shared->Prop} (h: ¬c) (k:wpAny M A y Q E s):wpAny M A (if c then x else y) Q E s:=(if_neg h).symm▸k
noncomputable abbrev gm (l:List (Str×Value)) (S:List (Str×Value)):Sem (List (Str×Value)):=forIn l S λx __s=>if (List.lookup x.fst __s).isNone=true then pure (ForInStep.yield (__s++ [(x.fst,x.snd)])) else pure (ForInStep.yield __s)
theorem EE {l S l2:List (Str×Value)} (h: ∀x∈l,∃v,S.lookup x.1=some v):gm (l++l2) S=gm l2 S:=by
 induction l with
 |nil=>rfl
 |cons x l ih=>
  obtain ⟨v,e⟩:=h x (.head _)
  refine Eq.trans (List.forIn_cons ..) ?_
  rw [e]
  exact ih λy hy=>h y (.tail _ hy)
theorem Ff {l:List (Str×Value)}: ∀{S:List (Str×Value)},(l.map (·.1)).Nodup->(∀x∈l,x.1∉S.map (·.1))->gm l S=pure (S++l):=by
 induction l with
 |nil=>intro S _ _;rw [List.append_nil];exact List.forIn_nil ..
 |cons x l ih=>
  intro S nd h
  obtain ⟨n1,n2⟩:=List.nodup_cons.mp nd
  refine Eq.trans (List.forIn_cons ..) ?_
  rw [oU (h x (.head _))]
  refine (ih (S:=S++ [x]) n2 λy hy=> ?_).trans (congrArg pure (List.append_assoc S [x] l))
  rw [List.map_append]
  exact λz=>(List.mem_append.mp z).elim (h y (.tail _ hy)) λz=>n1 (show x.1∈_ from (List.mem_singleton.mp z:y.1=x.1)▸(List.mem_map_of_mem hy:y.1∈l.map (·.1)))
theorem DJ {fd:FuncData} {vs:List Value} {pa pm p2:List Str} {d1 d2:List Value} (h1:fd.params.posonlyargs= []) (h2:fd.params.kwonlyargs= []) (h3:fd.params.vararg=none) (h4:fd.params.kwarg=none)
  (zc:fd.params.args.map (·.arg)=(pa++pm)++p2) {Q:List (Str×Value)->Shared->Prop} (hd: ∀Q':Option (Array Value)->Shared->Prop,(∀r,(r.getD #[]).toList=d1++d2->Q' r s)->wpAny M A (seqItems? fd.defaults) Q' E s)
  (l1:(pa++pm).length=vs.length) (l2:pm.length=d1.length) (l3:p2.length=d2.length) (nd:((pa++pm)++p2).Nodup) (q:Q (((pa++pm)++p2).zip (vs++d2)) s):
  wpAny M A (bindArgs fd ⟨vs, []⟩) Q E s:=by
 obtain ⟨VH,VI,apart⟩:=List.nodup_append.mp nd
 have A1:=qC l1 VH
 have ez:((pa++pm)++p2).zip vs=(pa++pm).zip vs:=by
  have z:=List.zip_append (r₁:=p2) (r₂:=([]:List Value)) l1
  rwa [List.append_nil,List.zip_nil_right,List.append_nil] at z
 have eD:((pa++pm)++p2).length-(d1++d2).length=pa.length:=by rw [List.length_append,List.length_append,List.length_append,l2,l3,Nat.add_assoc,Nat.add_sub_cancel]
 have eN:(d1++d2).length-((pa++pm)++p2).length=0:=by rw [List.length_append,List.length_append,List.length_append,l2,l3,Nat.add_assoc];exact Nat.sub_eq_zero_of_le (Nat.le_add_left ..)
 have loop:gm ((((pa++pm)++p2).drop pa.length).zip (d1++d2)) (((pa++pm)++p2).zip vs)=pure (((pa++pm)++p2).zip (vs++d2)):=by
  rw [List.append_assoc,List.drop_left,List.zip_append l2,←List.append_assoc,ez,List.zip_append l1,EE λx hx=> ?_,Ff]
  ·rw [o9 l3];exact VI
  ·intro x hx
   rw [o9 l1]
   exact λz=>apart _ z _ (List.of_mem_zip hx).1 rfl
  ·obtain ⟨w,e⟩:=A1.mem (List.mem_append_right pa (List.of_mem_zip hx).1)
   exact ⟨w,(congrArg (List.lookup x.1) (List.append_nil _)).symm.trans (e [])⟩
 obtain ⟨_,_,⟨_,args,_,_,kd,_,df⟩,_,_,_,_,_,_,_,_,_,_,_,_⟩:=fd
 dsimp only at h1 h2 h3 h4 zc
 cases h1
 cases h2
 cases h3
 cases h4
 unfold bindArgs
 dsimp only
 replace zc:List.map (λx:Arg=>x.arg) []++List.map (λx:Arg=>x.arg) args=(pa++pm)++p2:=zc
 generalize List.map (λx:Arg=>x.arg) []++List.map (λx:Arg=>x.arg) args=ps at zc⊢
 subst zc
 refine wpAny_bind (m:=forIn [] _ _) (wpAny_pure (wpAny_bind (hd _ λr hr=> ?_)))
 refine eC (λz=> ?_) ?_
 ·have z:=of_decide_eq_true (Bool.and_eq_true_iff.mp z).1
  rw [List.length_append,l1] at z
  exact absurd z (Nat.not_lt.mpr (Nat.le_add_right ..))
 generalize hq:List.drop _ (r.getD #[]).toList=D
 have hq:D=d1++d2:=by rw [←hq,hr,eN];rfl
 subst hq
 refine eC (λz=> ?_) ?_
 ·rw [List.filter_eq_nil_iff.mpr λa ha q=> ?_] at z
  ·exact nomatch z
  ·rw [eD,List.append_assoc,List.take_left] at ha
   obtain ⟨w,e⟩:=A1.mem (List.mem_append_left pm ha)
   rw [ez,(congrArg (List.lookup a) (List.append_nil _)).symm.trans (e [])] at q
   exact nomatch q
 refine wpAny_bind (m:=gm _ _) (wpAny_of_eq ((congrArg (λn=>gm (((pa++pm++p2).drop n).zip (d1++d2)) ((pa++pm++p2).zip vs)) eD).trans loop) ?_)
 refine wpAny_bind (m:=forIn [] _ _) (wpAny_pure (eC (λz=>nomatch z) ?_))
 have ef:=H9 ((qC (ps:=pa++pm++p2) (ws:=vs++d2) ((List.length_append ..).trans (((congrArg (· +p2.length) l1).trans (congrArg (vs.length+ ·) l3)).trans (List.length_append ..).symm)) nd).imp λp w z=>(congrArg (List.lookup p) (List.append_nil _)).symm.trans (z []))
 exact wpAny_pure (show Q (List.filterMap _ _) s from ((congrArg (List.filterMap _) (List.append_nil _)).trans ef).symm▸q)
end
structure zR (G:Gl) (B:aO->List Stmt->List IS->Prop) (fn:Fn) (fd:FuncData) (body:List Stmt):Prop where
 co:fd.scope.isCoroutine=false
 gen:fd.scope.isGenerator=false
 kind:fd.scope.kind= .function
 clo:fd.closure= []
 globals:fd.globals=mainGlobals
 builtins:fd.builtins=builtinsNs
 po:fd.params.posonlyargs= []
 ko:fd.params.kwonlyargs= []
 va:fd.params.vararg=none
 kw:fd.params.kwarg=none
 params:ae (λp c=>aM p=some c) (fd.params.args.map (·.arg)) fn.params
 nd:(fd.params.args.map (·.arg)).Nodup
 dfl:(fd.defaults= .none/\fn.cW= [])∨ ∃T oT items n,fd.defaults= .ref T/\G.K.lookup T=some oT/\oT.data= .seq items n/\ae (VR G []) fn.cW items.toList
 dl:fn.cW.length≤fn.params.length
 body:B fd.scope.names body fn.body
 par: ∀p∈fd.params.args.map (·.arg),fd.scope.names.lookup p=some .local∨fd.scope.names.lookup p=some .cell
 noFree: ∀x∈fd.scope.names,x.2≠ .free
noncomputable def vp (G:Gl) (B:aO->List Stmt->List IS->Prop) (fn:Fn) (a:Addr):Prop:= ∃(o:Obj) (fd:FuncData) (body:List Stmt),G.K.lookup a=some o/\o.data= .func fd/\fd.body= .stmts body/\codeIn G.K fd.code fd.qualname=true/\zR G B fn fd body
section
variable {kindOf:Str->Option NameKind} {n:Str}
theorem sT {binds:List (Str×Value)}: ∀{m:Str->Option Value},n∉binds.map (·.1)->bindL kindOf binds m n=m n:=by
 induction binds with
 |nil=>exact λ_=>rfl
 |cons p r ih=>
  intro m h
  refine (ih λz=>h (.tail _ z)).trans ?_
  by_cases q:kindOf p.1=some .local
  ·rw [if_pos q];exact if_neg λz:n=p.1=>h (List.mem_cons.mpr (.inl z))
  ·rw [if_neg q]
theorem tc {binds:List (Str×Value)}: ∀{m:Str->Option Value},n∉binds.map (·.1)->bindC kindOf binds m n=m n:=by
 induction binds with
 |nil=>exact λ_=>rfl
 |cons p r ih=>
  intro m h
  refine (ih λz=>h (.tail _ z)).trans ?_
  by_cases q:kindOf p.1=some .local
  ·rw [if_pos q]
  ·rw [if_neg q];exact if_neg λz:n=p.1=>h (List.mem_cons.mpr (.inl z))
theorem wH {binds:List (Str×Value)} {v:Value} (hk:kindOf n=some .local): ∀{m:Str->Option Value},(binds.map (·.1)).Nodup->(n,v)∈binds->bindL kindOf binds m n=some v:=by
 induction binds with
 |nil=>exact λ_ h=>nomatch h
 |cons p r ih=>
  intro m nd h
  obtain ⟨n1,n2⟩:=List.nodup_cons.mp nd
  cases h with
  |head=>exact (sT n1).trans (by rw [if_pos hk];exact if_pos rfl)
  |tail _ h=>exact ih n2 h
theorem xG {binds:List (Str×Value)} {v:Value} (hk:kindOf n≠some .local): ∀{m:Str->Option Value},(binds.map (·.1)).Nodup->(n,v)∈binds->bindC kindOf binds m n=some v:=by
 induction binds with
 |nil=>exact λ_ h=>nomatch h
 |cons p r ih=>
  intro m nd h
  obtain ⟨n1,n2⟩:=List.nodup_cons.mp nd
  cases h with
  |head=>exact (tc n1).trans (by rw [if_neg hk];exact if_pos rfl)
  |tail _ h=>exact ih n2 h
end
theorem pE {names:List (Str×NameKind)} {x:Str}: ∀{n:Nat} {acc:List (Str×Addr)},(∃c,acc.lookup x=some c)-> ∃c,(cellsFrom n names acc).lookup x=some c:=by
 induction names with
 |nil=>exact λh=>h
 |cons p r ih=>
  intro n acc h
  unfold cellsFrom
  by_cases q:(p.2==NameKind.cell)=true
  ·rw [if_pos q];exact let ⟨c,e⟩:=h;ih (rS e)
  ·rw [if_neg q];exact ih h
theorem jK {names:List (Str×NameKind)} {x:Str} (h:(x,NameKind.cell)∈names): ∀(n:Nat) (acc:List (Str×Addr)),∃c,(cellsFrom n names acc).lookup x=some c:=by
 induction names with
 |nil=>exact nomatch h
 |cons p r ih=>
  intro n acc
  unfold cellsFrom
  cases h with
  |head=>rw [if_pos (c:=((x,NameKind.cell).2==NameKind.cell)=true) rfl];exact pE ⟨n,je⟩
  |tail _ h=>
   by_cases q:(p.2==NameKind.cell)=true
   ·rw [if_pos q];exact ih h _ _
   ·rw [if_neg q];exact ih h _ _
noncomputable def Gu (G:Gl) (μ:Mu) (b:Nat×AV) (p:Str×Value):Prop:=aM p.1=some b.1/\VR G μ b.2 p.2
theorem wy {G:Gl} {μ:Mu} {bs:List (Nat×AV)} {binds:List (Str×Value)} (a:ae (Gu G μ) bs binds) {x:Nat} {v:AV} (e:eb bs x=some v): ∃s u,(s,u)∈binds/\aM s=some x/\VR G μ v u:=by
 induction a with
 |nil=>exact nomatch e
 |cons h t ih=>
  rcases qO e with ⟨q,e⟩|⟨_,e⟩
  ·exact ⟨_,_, .head _,q▸h.1,e▸h.2⟩
  ·exact let ⟨s,u,h1,h2⟩:=ih e;⟨s,u, .tail _ h1,h2⟩
section
variable {G:Gl} {A:Around} {μ:Mu} {σ σ':a0} {h h1:Heap}
structure mQ (A:Around) (n:Nat):Prop where
 handled:A.handled=none
 depth:A.depth+4*n<recursionLimit+2
 units:A.units+40*n+180<cLine
theorem cy.c {A:Around} {n:Nat} (R:cy A n):mQ A n:=⟨R.handled,Nat.lt_add_right 2 R.depth,Nat.lt_of_le_of_lt (Nat.add_le_add_left (by decide) _) R.units⟩
noncomputable def FL (G:Gl) (n:Nat) (C:aD) (f:Nat) (a:Addr):Prop:=
 ∀{A:Around} {μ:Mu} {σ:a0} {h:Heap} {as:List AV} {vs:List Value} {K:KV},mQ A n->ai G μ σ h->ae (VR G μ) as vs->C f as σ K->
 ∀{g:Array GenState} {d:Drawn} {tk:Nat} {os:OsState} {R:Flow->Shared->Prop},KQ G K μ h g d os (λv=>R (.ret v))->aT (model G.prog G.w) A (.call (.ref a) ⟨vs, []⟩) R ⟨h,g,d,tk,os⟩
noncomputable def iJ (G:Gl) (n:Nat) (C:aD):Prop:= ∀f a,G.fa f a->FL G n C f a
theorem zH {ps:List Str} {cs:List Nat} (a:ae (λp c=>aM p=some c) ps cs): ∀{as:List AV} {vs:List Value},ae (VR G μ) as vs->ae (Gu G μ) (cs.zip as) (ps.zip vs):=by
 induction a with
 |nil=>exact λ_=> .nil
 |cons a b ih=>intro as vs q;cases q with
  |nil=>exact .nil
  |cons c d=>exact .cons ⟨a,c⟩ (ih d)
theorem Tg {k n d:Nat} (h1:k≤n) (h2:n-k≤d) (h3:d≤n):k-(n-d)=d-(n-k):=by
 obtain ⟨e,rfl⟩:=Nat.exists_eq_add_of_le h1
 rw [Nat.add_sub_cancel_left] at h2⊢
 obtain ⟨f,rfl⟩:=Nat.exists_eq_add_of_le h2
 rw [Nat.add_comm k e] at h3⊢
 rw [Nat.add_sub_add_left,Nat.add_sub_cancel_left,Nat.sub_sub_self (Nat.le_of_add_le_add_left h3)]
theorem xF {ps:List Str} {D:List Value} {k:Nat} (h1:k≤ps.length) (h2:ps.length-k≤D.length) (h3:D.length≤ps.length):
  ∃pa pm p2 d1,ps=(pa++pm)++p2/\D=d1++D.drop (D.length-(ps.length-k))/\(pa++pm).length=k/\pm.length=d1.length/\p2.length=(D.drop (D.length-(ps.length-k))).length:=by
 refine ⟨(ps.take k).take (ps.length-D.length),(ps.take k).drop (ps.length-D.length),ps.drop k,D.take (D.length-(ps.length-k)), ?_,(List.take_append_drop ..).symm, ?_, ?_, ?_⟩
 ·rw [List.take_append_drop,List.take_append_drop]
 ·rw [List.take_append_drop,List.length_take,Nat.min_eq_left h1]
 ·rw [List.length_drop,List.length_take,List.length_take,Nat.min_eq_left h1,Nat.min_eq_left (Nat.sub_le ..)];exact Tg h1 h2 h3
 ·rw [List.length_drop,List.length_drop];exact (Nat.sub_sub_self h2).symm
theorem Ab (H:ai G μ σ h) {B:aO->List Stmt->List IS->Prop} {fn:Fn} {fd:FuncData} {body:List Stmt} (F:zR G B fn fd body) {as:List AV} {vs:List Value} (hl:fn.params.length=vs.length) (ra:ae (VR G μ) as vs) {env:Env}
  (Q9:env.scope=fd.scope) (hg:env.globals=fd.globals) (hb:env.builtins=fd.builtins) (JX:h.get? env.locals=none) (hc: ∀x,(x,NameKind.cell)∈fd.scope.names-> ∃c,env.cells.lookup x=some c) (nc: ∀x c,env.cells.lookup x=some c->h.get? c=none/\c≠env.locals)
  (ns:h1.Ns env.locals (bindL env.kindOf ((fd.params.args.map (·.arg)).zip vs) λ_=>none)) (cell: ∀x c,env.cells.lookup x=some c->h1.IsCell c (bindC env.kindOf ((fd.params.args.map (·.arg)).zip vs) (λ_=>none) x)) (inj: ∀x y c,env.cells.lookup x=some c->env.cells.lookup y=some c->x=y):
  aE G μ fd.scope.names (eb (fn.params.zip as)) env h1:=by
 have ko: ∀y,env.kindOf y=fd.scope.names.lookup y:=λy=>by unfold Env.kindOf;rw [Q9]
 have out: ∀{c:Addr},h.get? c=none-> ¬bJ μ c:=λe i=>let ⟨o,e'⟩:=H.live i;nomatch e.symm.trans e'
 have fst:((fd.params.args.map (·.arg)).zip vs).map (·.1)=fd.params.args.map (·.arg):=o9 (F.params.length.trans hl)
 have nd:(((fd.params.args.map (·.arg)).zip vs).map (·.1)).Nodup:=fst.symm▸F.nd
 refine ⟨⟨Q9▸F.kind,λy e=>(ko y).trans e,λy e=>(ko y).symm▸e,λy e=>(ko y).trans e,hg.trans F.globals,hb.trans F.builtins⟩,⟨_,ns,λy v e=> ?_⟩,out JX,H.none_of JX,
  λy e=>e.elim (λe=>hc y (PySem.mem_of_lookup e)) λe=>absurd rfl (F.noFree _ (PySem.mem_of_lookup e)),λy c e=>have z:=nc y c e;⟨out z.1,H.none_of z.1,z.2,_,cell y c e⟩,inj⟩
 obtain ⟨s,u,hm,Dr,hr⟩:=wy (zH F.params ra) e
 obtain ⟨st,pj,rfl⟩:=bp Dr
 have VJ:nm st∈((fd.params.args.map (·.arg)).zip vs).map (·.1):=List.mem_map_of_mem hm
 rcases F.par _ (fst▸VJ) with z|z
 ·exact .loc st u pj z (wH ((ko _).trans z) nd hm) hr
 ·obtain ⟨c,ec⟩:=hc _ (PySem.mem_of_lookup z)
  have kn:env.kindOf (nm st)≠some .local:=λq=>nomatch ((ko _).trans z).symm.trans q
  exact .cell st c u pj (.inl z) ec (xG kn nd hm▸cell _ c ec) hr
theorem Hh (X:G.K.In h) {B:aO->List Stmt->List IS->Prop} {fn:Fn} {fd:FuncData} {body:List Stmt} (F:zR G B fn fd body) {E:Value->Shared->Prop} {g:Array GenState} {d:Drawn} {tk:Nat} {os:OsState}:
  ∃D:List Value,ae (VR G μ) fn.cW D/\ ∀(Q':Option (Array Value)->Shared->Prop),(∀r,(r.getD #[]).toList=D->Q' r ⟨h,g,d,tk,os⟩)->wpAny (model G.prog G.w) A (seqItems? fd.defaults) Q' E ⟨h,g,d,tk,os⟩:=by
 rcases F.dfl with ⟨e1,e2⟩|⟨TT,oT,items,m,e1,e2,e3,e4⟩
 ·exact ⟨[],e2▸ .nil,λQ' k=>wpAny_of_eq (a:=none) (e1▸rfl) (k none rfl)⟩
 ·exact ⟨items.toList,e4.imp λ_ _ z=>qU z,λQ' k=>e1▸wpAny_seqItems (X _ _ e2) e3 (k _ rfl)⟩
theorem Tz {u n c:Nat} (h:u+40*(n+1)+180<c):u+3+40*n+200<c:=by exact Rq h
theorem TK {u n c:Nat} (h:u+4*(n+1)<c+2):u+1+4*n<c:=by exact QC h
theorem room_in {env:Env} {n:Nat} (R:mQ A (n+1)):cy (A.deeper env) n:=⟨R.handled,TK R.depth,Tz R.units⟩
theorem xO (K:dd G) (T:o6 G) {B:aO->List Stmt->List IS->Prop} {n:Nat} {C:aD} {fn:Fn} {a:Addr} (F:vp G B fn a) (R0:mQ A (n+1)) (H:ai G μ σ h) {as:List AV} {vs:List Value} (ra:ae (VR G μ) as vs) {KK:KV} (hb:oB (pO fn.params fn.cW as) λbs=>wSs C fn.body (eb bs) σ (vF KK))
  (hB: ∀{env:Env} {sc:aO} {stmts:List Stmt} {ρ:Loc} {h:Heap} {K:KF},B sc stmts fn.body->cy (A.deeper env) n->ai G μ σ h->aE G μ sc ρ env h->wSs C fn.body ρ σ K->yp G (A.deeper env) sc env (execs stmts env) μ h K)
  {g:Array GenState} {d:Drawn} {tk:Nat} {os:OsState} {R:Flow->Shared->Prop} (q:KQ G KK μ h g d os λv=>R (.ret v)):aT (model G.prog G.w) A (.call (.ref a) ⟨vs, []⟩) R ⟨h,g,d,tk,os⟩:=by
 obtain ⟨o,fd,body,hl,hd,w9,wc,F⟩:=F
 have X:=K.X.keeps H.base
 have lp:(fd.params.args.map (·.arg)).length=fn.params.length:=F.params.length
 obtain ⟨D,hD,VK⟩:=Hh (A:=A.in1) (μ:=μ) X F (E:=ow) (g:=g) (d:=d) (tk:=tk) (os:=os)
 obtain ⟨⟨l1,l2⟩,e⟩:=bG hb
 rw [ra.length,hD.length] at l2
 rw [ra.length] at l1
 obtain ⟨pa,pm,p2,d1,ep,eD,n1,n2,n3⟩:=xF (ps:=fd.params.args.map (·.arg)) (D:=D) (k:=vs.length) (lp▸l1) (lp▸l2) (by rw [lp,←hD.length];exact F.dl)
 have VL:ae (VR G μ) (as++fn.cW.drop (fn.cW.length-(fn.params.length-as.length))) (vs++D.drop (D.length-((fd.params.args.map (·.arg)).length-vs.length))):=by
  rw [lp,←ra.length,←hD.length]
  exact ae.append (hD.drop _) ra
 have ll:fn.params.length=(vs++D.drop (D.length-((fd.params.args.map (·.arg)).length-vs.length))).length:=lp.symm.trans ((congrArg List.length ep).trans ((List.length_append ..).trans ((congr (congrArg _ n1) n3).trans (List.length_append ..).symm)))
 refine jU (Nat.lt_of_add_lt_add_right (n:=2) (Nat.lt_of_le_of_lt (Nat.add_le_add_left (by exact QT) _) R0.depth)) (X _ _ hl) hd F.co F.gen w9 (codeRec_of X wc) ?_
 refine ao (DJ F.po F.ko F.va F.kw ep (λQ' k=>VK Q' λr hr=>k r (hr.trans eD)) n1 n2 n3 (ep▸F.nd) ?_)
 rw [F.clo,←ep]
 generalize as++fn.cW.drop (fn.cW.length-(fn.params.length-as.length))=Wh at*
 generalize vs++D.drop (D.length-((fd.params.args.map (·.arg)).length-vs.length))=lU at*
 have qa: ∀x∈(fd.params.args.map (·.arg)).zip lU,fd.scope.names.lookup x.1=some .local∨(fd.scope.names.lookup x.1=some .cell/\((cellsFrom (h.objs.size+1) fd.scope.names []).lookup x.1).isSome=true):=λx hx=>
  (F.par x.1 (List.of_mem_zip hx).1).imp_right λz=>⟨z,let ⟨c,e⟩:=jK (PySem.mem_of_lookup z) (h.objs.size+1) [];e▸rfl⟩
 refine ao (wpAny_newFunctionEnv_cells (s:=⟨h,g,d,tk,os⟩) F.kind qa λenv he s' x=> ?_)
 obtain ⟨h1,aK,rfl,k1⟩:=x.done
 have nC: ∀n c,env.cells.lookup n=some c->h.get? c=none/\c≠env.locals:=λn c e=>have z:=x.above n c (PySem.mem_of_lookup e);⟨Heap.get?_none_of_le (Nat.le_of_lt (Nat.lt_of_le_of_lt x.toInCall.fresh z)),Nat.ne_of_gt z⟩
 have nL:h.get? env.locals=none:=Heap.get?_none_of_le x.toInCall.fresh
 have L1:=Ab (h1:=h1) H F ll VL (env:=env) (by rw [he];rfl) (by rw [he];rfl) (by rw [he];rfl) nL (λy e=>by rw [he];exact jK e _ _) nC x.toInCall.ns x.cell λy z c e1 e2=>name_of_addr x.apart (PySem.mem_of_lookup e1) (PySem.mem_of_lookup e2)
 refine ⟨(T.nolimit.keeps H.base).keeps k1,vc (hB F.body (room_in R0) (H.grown k1) L1 e g d aK os _ λfl f ρ2 μ2 h2 b9 σ2 ke rf S2 H2 L2=> ?_)⟩
 have S:Step aS μ h μ2 h2:=(Step.grown aS k1).trans S2 (λ_ z=>z) λy o e z=>z.all.elim (λz=>by subst z;exact nomatch nL.symm.trans e) λ⟨m,z⟩=>nomatch (nC _ _ z).1.symm.trans e
 cases fl with
 |next=>cases rf;exact q .none .none μ2 h2 b9 σ2 ke rfl S H2
 |ret V=>exact let ⟨v,e,rv⟩:=rf;e▸q v V μ2 h2 b9 σ2 ke rv S H2
 |cont=>exact ke.elim
end
section
variable {prog:Program} {w:World} {A:Around} {s:Shared} {R:Flow->Shared->Prop}
theorem iV {id:String} {args:Args} {b:Builtin} (hq:(Code.builtin id args).quiet=true) (hd:Dec (.builtin id args)=false) (hb:entryFor table id=some b)
  (h:wpAny (model prog w) A.in1 (checkBuiltinCall id args) (λ_ s₁=>ag (model prog w) (A.under (.builtin id args)) (b args) (AD (model prog w) A R) s₁) ow s):aT (model prog w) A (.call (.builtin id) args) R s:=by
 refine aX rfl ?_
 show ag _ A.in1 (do checkBuiltinCall id args;again (.builtin id args)) _ s
 refine a8 (ao (wpAny_mono h (λ_ s₁ h₁=>ah (And.intro hq (aX hd ?_))) λ_ _ h'=>h'))
 show ag _ _ (match entryFor table id with|some b=>b args|none=>_) _ s₁
 rw [hb];exact h₁
theorem k5 (args:Args):Dec (.builtin "type.__call__" args)=false:=by show my.contains "type.__call__"=false;decide+kernel
variable {K:Frag} {C fI:Addr} {h:Heap} {g:Array GenState} {d:Drawn} {t:Nat} {os:OsState}
theorem HS {rest:List Value} (X:K.In h) (hm:makesIn K C=true) (dR:findIn K (.ref C) "__init__"=some (some (.ref fI))) (hf:typeIn K (.ref fI)=some (.type "function"))
  (hq:aT (model prog w) (A.under (.builtin "type.__call__" ⟨.ref C::rest, []⟩)) (.call (.ref fI) ⟨.ref (h.objs.size+1)::rest, []⟩) (zr λv s'=>v= .none/\R (.ret (.ref (h.objs.size+1))) s') ⟨(h.push emptyDict).push (instObj C h.objs.size),g,d,t,os⟩):
  aT (model prog w) A (.call (.ref C) ⟨rest, []⟩) R ⟨h,g,d,t,os⟩:=by
 have Y:=makes_of (M:=model prog w) X hm
 have hi:=looks_findIn (M:=model prog w) X dR
 have hb: ∀self,Looks (model prog w) h (bindSpecial (.ref fI) self) (.ref fI, [self]):=λself=>bind_fn X self hf
 have Y':=Y
 obtain ⟨⟨oc,od,cd,sl,hC,e1,e2,e4⟩,made,base,self,top,call,typ⟩:=Y
 refine aX rfl ?_
 show ag _ _ (callAny (.ref C) _) _ _
 simp only [callAny]
 refine a8 (ao (wpAny_load hC ?_))
 show ag _ _ (callAny.viaDunder (.ref C) _) _ _
 unfold callAny.viaDunder
 refine a8 (ao (call.at ?_))
 dsimp only
 rw [tc_bind]
 refine a8 (ah ?_)
 refine ah (a:=Fin.again (.call (.builtin "type.__call__") ⟨.ref C::rest, []⟩)) (And.intro rfl ?_)
 refine iV (Code.quiet_builtin _ (by decide+kernel)) (k5 _) entry_typeCall (check_slot tc_kind tc_split typ (tc_args _ _ _) ?_)
 have Bs:Looks (model prog w) h (mroOf (.ref C)) cd.mro:=((Looks.ld (part:=none) hC).andThen .now).andThen .now
 show ag _ _ (mroOf (.ref C)>>=_) _ _
 refine a8 (ao (Bs.at ?_))
 rw [if_neg (by rw [e4];decide)]
 show ag _ _ (Bind.madeBy (.ref C)>>=_) _ _
 refine a8 (ao (made.at ?_))
 refine a8 (ah ?_)
 refine a8 (aq (eh (qr (new_K Y' hi (.inl rfl) ?_))))
 show ag _ _ _ _ _
 have k: ∀b o,h.get? b=some o->((h.push emptyDict).push (instObj C h.objs.size)).get? b=some o:=λb o e=>Heap.get?_push_of_some _ (Heap.get?_push_of_some _ e)
 have hx:((h.push emptyDict).push (instObj C h.objs.size)).get? (h.objs.size+1)=some (instObj C h.objs.size):=by heap_get
 have t1:Looks (model prog w) ((h.push emptyDict).push (instObj C h.objs.size)) (typeOf (.ref (h.objs.size+1))) (.ref C):=(Looks.ld hx).andThen .now
 have s1:=self.keeps k
 have i1:=hi.keeps k
 have b1:=(hb (.ref (h.objs.size+1))).keeps k
 have JY:Looks (model prog w) ((h.push emptyDict).push (instObj C h.objs.size)) (isInstance (.ref (h.objs.size+1)) (.ref C)) true:=t1.andThen s1
 refine a8 (ao (JY.at ?_))
 rw [if_neg (by decide)]
 refine a8 (aq ?_)
 unfold callSpecial? specialOf
 refine a8 (a8 (ao (t1.at (ao (i1.at ?_)))))
 refine aq (a8 (ao (b1.at ?_)))
 refine a8 (eh (mU hq λr s' z=> ?_))
 cases r with
 |ret v=>
  obtain ⟨rfl,z⟩:=z
  exact ah (ah z)
 |_=>exact z.elim
end
theorem zk (vs:Array Value):(vs.eraseIdxIfInBounds 0).toList=vs.toList.drop 1:=by
 obtain ⟨l⟩:=vs
 cases l<;>simp
section
variable {G:Gl} {A:Around} {μ:Mu} {σ σ':a0} {h:Heap}
noncomputable def RA:List (Nat×List (Nat×String)):= [(1, [(10,"list.append"),(46,"list.pop"),(74,"list.extend")]),(2, [(55,"dict.get")]),(3, [(33,"bytes.join"),(101,"bytes.split")])]
noncomputable def vA (k:Nat):List (Nat×String):=match RA.lookup k with
 |some l=>l
 |none=> []
noncomputable def jx (k m:Nat):Option String:=(vA k).lookup m
theorem sG (H:ai G μ σ h) {x:Nat} {b:bu} {es:List (AV×AV)} (hx:σ.get x=some (.dict es)) (hb:μ[x]?=some b): ∃o,h.get? b.a=some o/\o.cls= .type "dict"/\o.dict=none:=
 let ⟨ob,ens,ep,y1,y2,y3,y4⟩:=mm H hx hb
 ⟨ob,y1,y2.1,y2.2.1⟩
theorem wX {K:KV} (H:ai G μ σ h) {r:Nat} {xs:List AV} {V:AV} {v:Value} {b:bu} (hr:σ.get r=some (.list xs)) (hb:μ[r]?=some b) (rv:VR G μ V v) (hc:xs.length<aw) (k:K .none (σ.set r (.list (xs++ [V])))):
  bU G A (call (.builtin "list.append") [.ref b.a,v]) μ h K:=by
 intro g d tk os Q E q
 obtain ⟨vs,l1,r1⟩:=H.obj hr hb
 refine wpAny_list_append_plain (s:=⟨h,g,d,tk,os⟩) l1 (λh' hl ja=> ?_) (bj (Nat.le_of_lt ((show xs.length=vs.size from r1.length)▸hc)))
 obtain ⟨n,e⟩:=hl
 obtain ⟨S,H'⟩:=setB (o':= .list (xs++ [V])) H hr hb rfl (h':=h') ja ⟨_,e⟩ ⟨_,⟨n,e⟩,by rw [Array.toList_push];exact ae.append (.cons rv .nil) r1⟩
 exact q _ _ _ _ _ _ k rfl S H'
theorem mapped {o':List AV} (H:ai G μ σ h) {r n:Nat} {xs:List AV} {b:bu} {vs:Array Value} (hr:σ.get r=some (.list xs)) (hb:μ[r]?=some b) (l1:h.get? b.a=some {cls:= .type "list",data:= .seq vs n}) {f:Array Value->Array Value} (ra:ae (VR G μ) o' (f vs).toList):
  Step aS μ h μ (h.update b.a (Obj.mapSeq f))/\ai G μ (σ.set r (.list o')) (h.update b.a (Obj.mapSeq f)):=by
 obtain ⟨m,hm⟩:=kG vs n f
 have e':(h.update b.a (Obj.mapSeq f)).get? b.a=some {cls:= .type "list",data:= .seq (f vs) m}:=(Heap.get?_update_self _ l1 (by rw [hm];rfl)).trans (congrArg some hm)
 exact setB (o':= .list o') H hr hb rfl (Heap.SameBut.update ..) ⟨_,e'⟩ ⟨_,⟨m,e'⟩,ra⟩
theorem FD {K:KV} (H:ai G μ σ h) {r:Nat} {x:AV} {xs:List AV} {b:bu} {t:Tok} (hr:σ.get r=some (.list (x::xs))) (hb:μ[r]?=some b) (hc:xs.length≤aw) (k:K x (σ.set r (.list xs))):
  bU G A (call (.builtin "list.pop") [.ref b.a, .int 0 t]) μ h K:=by
 intro g d tk os Q E q
 obtain ⟨vs,⟨n,l1⟩,r1⟩:=H.obj hr hb
 have n1:xs.length+1=vs.size:=r1.length
 obtain ⟨v,hv,rv⟩:=r1.at (i:=0) rfl
 obtain ⟨S,H'⟩:=mapped (f:=λxs=>xs.eraseIdxIfInBounds 0) (o':=xs) H hr hb l1 (by rw [zk];exact r1.drop 1)
 exact call_meets (s:=⟨h,g,d,tk,os⟩) PySem.F.slot_list_pop ⟨_,l1,rfl⟩ PySem.F.entry_list_pop (PySem.F.args_list_pop_2 _ _)
  (PySem.MeetsSeq.list_pop_at b.a vs n 0 t 0 v (by decide+kernel) (PyProof.Rows.seqIndex?_zero (n1▸Nat.succ_pos _)) hv (n1▸by rw [sizeLine_eq];unfold aw at hc;exact Si hc)) ⟨l1,q _ _ _ _ _ _ k rv S H'⟩
theorem xT {K:KV} (H:ai G μ σ h) {r r2:Nat} {xs ys:List AV} {b c:bu} (hr:σ.get r=some (.list xs)) (hb:μ[r]?=some b) (J8:σ.get r2=some (.list ys)) (pe:μ[r2]?=some c) (hc:xs.length+ys.length≤aw) (k:K .none (σ.set r (.list (xs++ys)))):
  bU G A (call (.builtin "list.extend") [.ref b.a, .ref c.a]) μ h K:=by
 intro g d tk os Q E q
 obtain ⟨vs,⟨n,l1⟩,r1⟩:=H.obj hr hb
 obtain ⟨ws,⟨n2,l2⟩,r2⟩:=H.obj J8 pe
 have n1:vs.size+ws.size≤1000000:=(show xs.length+ys.length=vs.size+ws.size from congr (congrArg _ r1.length) r2.length)▸hc
 have sl:=sizeLine_eq
 obtain ⟨S,H'⟩:=mapped (f:=λx=>x++ws) (o':=xs++ys) H hr hb l1 (by rw [Array.toList_append];exact ae.append r2 r1)
 refine call_meets (s:=⟨h,g,d,tk,os⟩) PySem.F.slot_list_extend ⟨_,l1,rfl⟩ PySem.F.entry_list_extend (PySem.F.args_list_extend_2 _ _)
  (PySem.AutoSeq1.list_extend_list_list_0 b.a vs n c.a ws n2 (by
   unfold Builtin.List.listTooLong
   simp
   intro _
   exact Qy n1 sl) (by exact R2 n1 sl) (by exact Ri n1 sl)) ⟨l1,l2,q _ _ _ _ _ _ k rfl S H'⟩
theorem He {KK:KV} (K:dd G) {n:Nat} (R:cy A n) (H:ai G μ σ h) {r:Nat} {es:List (AV×AV)} {k dv:AV} {kv ddv:Value} {b:bu} (hr:σ.get r=some (.dict es)) (hb:μ[r]?=some b) (rk:VR G μ k kv) (rd:VR G μ dv ddv)
  {o:Option AV} (e:cJ σ k es=some o) (kk:KK (o.getD dv) σ):bU G A (call (.builtin "dict.get") [.ref b.a,kv,ddv]) μ h KK:=by
 intro g d tk os Q E q
 have hm:=H.l7 K (List.mem_of_getElem? hb)
 have hT:(⟨h,g,d,tk,os⟩:Shared).TypeIs (.ref b.a) "dict":=let ⟨ob,ens,ep,y1,y2,y3,y4⟩:=mm H hr hb;⟨ob,y1,y2.1⟩
 have opt: ∀{w:Option Value} {aH:Nat},fJ G μ o w->Q (w.getD ddv) ⟨h,g,d,aH,os⟩:=λ{w aH} z=>q.same H kk (by
  cases o with
  |none=>exact (show w=none from z)▸rd
  |some u=>exact let ⟨x,e,hx⟩:=z;e▸hx)
 cases uZ H hr hb rk e with
 |flat k' bq h1 h2 D z _=>exact call_meetsIn (s:=⟨h,g,d,tk,os⟩) PySem.F.slot_dict_get hT PySem.F.entry_dict_get (PySem.F.args_dict_get_3 _ _ _) (meets_dict_get_default (bR G.prog G.w) b.a h2 hm ddv) ⟨_,D.mapOf,opt z⟩
 |tup m xs k' c ys q1 q2 q3 q4 q5 T D z _=>exact q2▸call_meetsIn (s:=⟨h,g,d,tk,os⟩) PySem.F.slot_dict_get hT PySem.F.entry_dict_get (PySem.F.args_dict_get_3 _ _ _) (meetsH_dict_get_default (dA G) b.a c.a hm ddv) ⟨R.xt,_,_,T,D,opt z⟩
end
end Mine.Internal
namespace Mine.Internal
open PySem PySem.W PySem.Calls PyProof.Rows PySem.Builtin
theorem gT:Slot "bytes" "join" "bytes.join":=
 .of (owner:="bytes") (n:="join") (by rw [typeLookup_type,builtinLookup_eq_fast];kernel_rfl) (by decide+kernel) (by decide+kernel) (by decide+kernel)
  (by first|exact .inl (by decide+kernel)|exact .inr (by decide+kernel)) (by rw [isSubtype_type];kernel_rfl)
theorem nA:typeOf (.builtin "bytes.join")=pure (.type "method_descriptor"):=by show builtinType _=_;rw [builtinType_eq_fast];kernel_rfl
theorem mz:entryFor table "bytes.join"=some Builtin.«bytes.join»:=entryFor_of_tree (by kernel_rfl)
theorem mS (a b:Value):argsOk "bytes.join" ⟨[a,b], []⟩:=by unfold argsOk;kernel_rfl
theorem Eu {id:String} {b:Array UInt8} {t:Tok}:Bytes.takeBufferQuiet? id (.bytes b t) 0=pure (some (b,none)):=by
 unfold Bytes.takeBufferQuiet? Bytes.takeBuffer?
 rw [KBy.special_eq KBy.look_buffer,KBy.own_buffer]
 have e:((0:Int)==Bytes.fullReadOnly)=false:=by decide+kernel
 simp only [pure_bind,Bool.not_true,Bool.false_eq_true,if_false,e,KBy.buffer_eq]
 rfl
section
variable {prog:Program} {w:World} {A:Around} {E:Value->Shared->Prop} {s:Shared}
noncomputable def fc (bs:List (Array UInt8)) (vs:List Value):Prop:=ae (λb v=> ∃t,v= .bytes b t) bs vs
theorem iQ {Q:Unit->Shared->Prop}: ∀(l:List Value) (keep:List Value),Q () s->wpAny (model prog w) A (Bytes.joinLetGo (l.map λv=>(v,none)) keep) Q E s
 | [],keep,h=>wpAny_pure h
 |x::l,keep,h=>by
  show wpAny _ _ (letGo _ _>>=λ_=>Bytes.joinLetGo (l.map λv=>(v,none)) keep) _ _ _
  exact wpAny_bind (wpAny_letGo (iQ l keep h))
noncomputable def gC (v:Value):Value×Option Value:=(v,none)
noncomputable def JI (vs:Array Value) (bs:List (Array UInt8)) (s:Shared) (rest:List Nat) (st:Array (Array UInt8)×List (Value×Option Value)) (s':Shared):Prop:=
 s'=s/\ ∃k,rest=List.range' k (vs.size-k)/\k≤vs.size/\st.1=(bs.take k).toArray/\st.2=(vs.toList.take k).map gC
theorem JI.zero {vs:Array Value} {bs:List (Array UInt8)}:JI vs bs s (List.range' [:vs.size].start [:vs.size].size [:vs.size].step) (#[], []) s:=⟨rfl,0,by simp,Nat.zero_le _,rfl,rfl⟩
theorem JI.cons {vs:Array Value} {bs:List (Array UInt8)} {j:Nat} {rest:List Nat} {st:Array (Array UInt8)×List (Value×Option Value)} {s':Shared} {P:Shared->Prop} (I:JI vs bs s (j::rest) st s')
  (k:j<vs.size->rest=List.range' (j+1) (vs.size-(j+1))->st.1=(bs.take j).toArray->st.2=(vs.toList.take j).map gC->P s):P s':=by
 obtain ⟨rfl,i,hr,hk,h1,h2⟩:=I
 obtain ⟨m,hm⟩:=Nat.exists_eq_add_of_le hk
 rw [hm,Nat.add_sub_cancel_left] at hr
 cases m with
 |zero=>cases hr
 |succ m=>
  rw [List.range'_succ] at hr
  obtain ⟨rfl,rfl⟩:=List.cons.inj hr
  exact k (hm▸Nat.lt_add_of_pos_right (Nat.succ_pos m)) (by rw [hm,Nat.add_sub_add_left];rfl) h1 h2
theorem JI.nil {vs:Array Value} {bs:List (Array UInt8)} (nb:vs.size=bs.length) {st:Array (Array UInt8)×List (Value×Option Value)} {s':Shared} {P:Shared->Prop} (I:JI vs bs s [] st s')
  (k:st=(bs.toArray,vs.toList.map gC)->P s):P s':=by
 obtain ⟨rfl,i,hr,hk,h1,h2⟩:=I
 have f9:vs.size≤i:=Nat.le_of_sub_eq_zero (List.range'_eq_nil_iff.mp hr.symm)
 rw [List.take_of_length_le (nb▸f9)] at h1
 rw [List.take_of_length_le f9] at h2
 exact k (Prod.ext h1 h2)
theorem JI.next {vs:Array Value} {bs:List (Array UInt8)} {j:Nat} {rest:List Nat} {st:Array (Array UInt8)×List (Value×Option Value)} {b:Array UInt8} {u:Tok} (lt:j<vs.size) (hr:rest=List.range' (j+1) (vs.size-(j+1))) (h1:st.1=(bs.take j).toArray) (h2:st.2=(vs.toList.take j).map gC)
  (e1:bs[j]?=some b) (e2:vs.getD j Value.none= .bytes b u) (e3:vs.toList[j]?=some (.bytes b u)):JI vs bs s rest ⟨st.1.push b,st.2++ [(vs.getD j Value.none,none)]⟩ s:=
 ⟨rfl,j+1,hr,lt,by rw [List.take_add_one,e1,h1];exact List.push_toArray ..,by rw [List.take_add_one,e3,h2,e2,List.map_append];rfl⟩
theorem zo {vs:Array Value} {bs:List (Array UInt8)} (hb:fc bs vs.toList) {i:Nat} (hi:i<vs.size) {P:Prop} (k: ∀b u,bs[i]?=some b->vs.getD i Value.none= .bytes b u->vs.toList[i]?=some (.bytes b u)->P):P:=
 have dR:i<bs.length:=hb.length▸hi
 let ⟨v,e2,u,e3⟩:=ae.get' hb (List.getElem?_eq_getElem dR)
 k _ u (List.getElem?_eq_getElem dR) (by rw [Array.getElem?_toList] at e2;rw [Array.getD_eq_getD_getElem?,e2,e3];rfl) (e3▸e2)
theorem yj {vs:Array Value} {bs:List (Array UInt8)} (hb:fc bs vs.toList) (k:Nat):((vs.toList.take k).map gC).any (λx=>x.1.onHeap)=false:=by
 rw [List.any_eq_false]
 intro x hx
 obtain ⟨v,hv,rfl⟩:=List.mem_map.mp hx
 obtain ⟨b,u,rfl⟩:=Aj hb v (List.mem_of_mem_take hv)
 exact Bool.false_ne_true
theorem xP {sep:Array UInt8} {t:Tok} {q:Addr} {vs:Array Value} {bs:List (Array UInt8)} {n:Nat} {Q:Value->Shared->Prop} (hl:s.heap.get? q=some {cls:= .type "list",data:= .seq vs n}) (hb:fc bs vs.toList)
  (hc:Bytes.tooLong (bs.toArray.foldl (· + ·.size) (sep.size*(bs.length-1)))=false) (hs:(Bytes.joined sep bs).size≤sizeLine) (hQ:Q (.bytes (Bytes.joined sep bs) s.toks) {s with toks:=s.toks+1}) (VM: ∀b t',bs= [b]->Q (.bytes b t') s):
  wpAny (model prog w) A (Builtin.«bytes.join» ⟨[.bytes sep t, .ref q], []⟩) (λfin s'=> ∃v,fin= .done (.ret v)/\Q v s') E s:=by
 unfold Builtin.«bytes.join» Bytes.joinM
 show wpAny _ _ (Bytes.joinItems (.ref q)>>=_) _ _ _
 refine wpAny_bind ?_
 unfold Bytes.joinItems
 refine wpAny_bind (wpAny_typeOf (T:="list") ⟨_,hl,rfl⟩ (wpAny_pure (wpAny_bind (wpAny_seqItems hl rfl ?_))))
 dsimp-zeta only
 extract_lets parts taken jp
 have J: ∀y,wpAny (model prog w) A (jp y) (λfin s'=> ∃v,fin= .done (.ret v)/\Q v s') E s:=λy=>by
  show wpAny _ _ (forIn [:_] _ _>>=_) _ _ _
  rw [Std.Legacy.Range.forIn_eq_forIn_range']
  refine wpAny_bind (wpAny_forIn_list _ (JI vs bs s) _ (λj rest st s' I=> ?_) (λst s' I=> ?_) _ _ JI.zero)
  ·refine JI.cons I λlt hr h1 h2=>zo hb lt λb u e1 e2 e3=> ?_
   refine wpAny_bind (wpAny_seqItems hl rfl (eC (λz=> ?_) (wpAny_bind (wpAny_holding (wpAny_of_eq ((congrArg (λv=>Bytes.takeBufferQuiet? _ v 0) e2).trans Eu) (wpAny_bind (wpAny_seqItems hl rfl (eC (λz=> ?_) (wpAny_pure (JI.next lt hr h1 h2 e1 e2 e3))))))))))
   ·rw [h2,yj hb j] at z;cases z
   ·rw [bne_self_eq_false] at z;cases z
  ·refine JI.nil hb.length.symm I λe=> ?_
   subst e
   exact wpAny_bind (wpAny_of_eq (a:=sep) rfl (eC (hc▸Bool.false_ne_true) (wpAny_bind (wpAny_mkBytes (wpAny_bind (wpAny_holding (wpAny_point (wpAny_bind (iQ _ _ (wpAny_pure ⟨_,rfl,hQ⟩)))))) hs))))
 clear_value jp
 rw [if_pos (by decide)]
 obtain ⟨l⟩:=vs
 cases l with
 |nil=>exact J _
 |cons x l=>cases l with
  |cons y l=>exact J _
  |nil=>
   cases hb with
   |cons a c=>
    cases c
    obtain ⟨u,rfl⟩:=a
    refine wpAny_bind (wpAny_typeOf (T:="bytes") (typeIs_bytes _ _ u) ?_)
    rw [if_pos (by decide)]
    exact wpAny_bind (wpAny_rule (wpAny_pure ⟨_,rfl,VM _ u rfl⟩))
end
theorem oK (sep:Array UInt8) (bs:List (Array UInt8)):(Bytes.joined sep bs).toList.map UInt8.toNat=joinB (sep.toList.map UInt8.toNat) (bs.map λb=>b.toList.map UInt8.toNat):=by
 have key: ∀(bs:List (Array UInt8)) (k:Nat) (out:Array UInt8),0<k->
   ((bs.zipIdx k).foldl (λout (x:Array UInt8×Nat)=>(if x.2>0 then out++sep else out)++x.1) out).toList.map UInt8.toNat=
   out.toList.map UInt8.toNat++(bs.map λb=>sep.toList.map UInt8.toNat++b.toList.map UInt8.toNat).flatten:=by
  intro bs
  induction bs with
  |nil=>intro k out _;simp
  |cons b bs ih=>
   intro k out hk
   rw [List.zipIdx_cons,List.foldl_cons,ih _ _ (by exact I1)]
   simp [hk]
 have SM: ∀(b:List Nat) (bs:List (List Nat)) (s:List Nat),joinB s (b::bs)=b++(bs.map λx=>s++x).flatten:=by
  intro b bs s
  induction bs generalizing b with
  |nil=>simp [joinB]
  |cons c bs ih=>
   rw [joinB]
   ·rw [ih];simp
   ·intro z;cases z
 cases bs with
 |nil=>simp [Bytes.joined,joinB]
 |cons b bs=>
  unfold Bytes.joined
  rw [List.zipIdx_cons,List.foldl_cons]
  have:=key bs (0+1) (if (0:Nat)>0 then (#[]:Array UInt8)++sep++b else (#[]:Array UInt8)++b) (by exact Rn)
  rw [List.map_cons,SM,List.map_map]
  simp at this⊢
  rw [this]
  rfl
section
variable {G:Gl} {A:Around} {μ:Mu} {σ σ':a0} {h:Heap}
theorem rH {ys:List AV} {vs:List Value} (a:ae (VR G μ) ys vs): ∀{ls:List (List Nat)},et ys=some ls-> ∃bs,fc bs vs/\(bs.map λb=>b.toList.map UInt8.toNat)=ls:=by
 induction a with
 |nil=>exact λe=>⟨[], .nil,Option.some.inj e⟩
 | @cons y v ys vs r t ih=>
  intro ls e
  cases y with
  |bytes l=>
   obtain ⟨m,hm,rfl⟩:=Option.map_eq_some_iff.mp (show (et ys).map (l:: ·)=some ls from e)
   obtain ⟨b,u,rfl,rfl⟩:=r
   exact let ⟨bs,h1,h2⟩:=ih hm;⟨b::bs, .cons ⟨u,rfl⟩ h1,h2▸rfl⟩
  |_=>exact nomatch e
theorem dt (s:List Nat): ∀(b:List Nat) (bs:List (List Nat)),(joinB s (b::bs)).length=(bs.map (·.length)).sum+b.length+s.length*bs.length
 |b, []=>by simp [joinB]
 |b,c::bs=>by
  rw [joinB]
  ·rw [List.length_append,List.length_append,dt s c bs]
   simp [Nat.mul_add]
   exact RV
  ·intro z;cases z
theorem lG: ∀(bs:List (Array UInt8)) (k:Nat),bs.foldl (λx y=>x+y.size) k=k+((bs.map λb=>b.toList.map UInt8.toNat).map (·.length)).sum
 | [],k=>by simp
 |b::bs,k=>by
  rw [List.foldl_cons,lG bs]
  simp
  exact RB
theorem xk (sep:Array UInt8) (bs:List (Array UInt8)):bs≠ []->(Bytes.joined sep bs).size=bs.toArray.foldl (· + ·.size) (sep.size*(bs.length-1)):=by
 intro hn
 have h1:(Bytes.joined sep bs).size=(joinB (sep.toList.map UInt8.toNat) (bs.map λb=>b.toList.map UInt8.toNat)).length:=by rw [←oK];simp
 rw [h1,List.foldl_toArray,lG]
 cases bs with
 |nil=>exact absurd rfl hn
 |cons b bs=>
  rw [List.map_cons,dt]
  simp
  exact Rf
theorem Ea {K:KV} (H:ai G μ σ h) {r:Nat} {ys:List AV} {b:bu} {sv:Value} {sl:List Nat} {ls:List (List Nat)} (hr:σ.get r=some (.list ys)) (hb:μ[r]?=some b) (rs:VR G μ (.bytes sl) sv) (ha:et ys=some ls) (hc:(joinB sl ls).length≤aw) (k:K (.bytes (joinB sl ls)) σ):
  bU G A (call (.builtin "bytes.join") [sv, .ref b.a]) μ h K:=by
 intro g d tk os Q E q
 obtain ⟨vs,⟨n,l1⟩,r1⟩:=H.obj hr hb
 obtain ⟨sep,t,rfl,rfl⟩:=rs
 obtain ⟨bs,h1,rfl⟩:=rH r1 ha
 have he:=oK sep bs
 have hl:(Bytes.joined sep bs).size≤1000000:=by rw [←he,List.length_map] at hc;exact hc
 refine wpAny_call_entry (s:=⟨h,g,d,tk,os⟩) gT (typeIs_bytes _ sep t) mz ?_ (mS _ _)
 refine xP (s:=⟨h,g,d,tk,os⟩) l1 h1 (KBy.tooLong_not ?_) (bj hl) (q.same H k ⟨_,_,rfl,he⟩) λc t' e=>q.same H k ⟨c,t',rfl,by rw [e];rfl⟩
 by_cases hn:bs= []
 ·subst hn;simp
 ·rw [←xk sep bs hn];exact HR hl
end
theorem gx:Slot "bytes" "split" "bytes.split":=
 .of (owner:="bytes") (n:="split") (by rw [typeLookup_type,builtinLookup_eq_fast];kernel_rfl) (by decide+kernel) (by decide+kernel) (by decide+kernel)
  (by first|exact .inl (by decide+kernel)|exact .inr (by decide+kernel)) (by rw [isSubtype_type];kernel_rfl)
theorem me:typeOf (.builtin "bytes.split")=pure (.type "method_descriptor"):=by show builtinType _=_;rw [builtinType_eq_fast];kernel_rfl
theorem lD:entryFor table "bytes.split"=some Builtin.«bytes.split»:=entryFor_of_tree (by kernel_rfl)
theorem mv (a b:Value):argsOk "bytes.split" ⟨[a,b], []⟩:=by unfold argsOk;kernel_rfl
noncomputable def splitU (c:UInt8):List UInt8->List UInt8->List (List UInt8)
 |cur, []=> [cur.reverse]
 |cur,x::r=>if x=c then cur.reverse::splitU c [] r else splitU c (x::cur) r
theorem kh (c:UInt8): ∀(l cur p:List UInt8),p∈splitU c cur l->p.length≤cur.length+l.length
 | [],cur,p,h=>by
  rw [splitU,List.mem_singleton] at h
  subst h;simp
 |x::r,cur,p,h=>by
  rw [splitU] at h
  split at h
  ·rcases List.mem_cons.mp h with rfl|h
   ·simp
   ·have:=kh c r [] p h
    simp at this⊢;exact QN this
  ·have:=kh c r (x::cur) p h
   simp at this⊢;exact RX this
theorem js (c:UInt8): ∀(l cur:List UInt8),(splitU c cur l).length≤l.length+1
 | [],cur=>by simp [splitU]
 |x::r,cur=>by
  rw [splitU]
  split
  ·have:=js c r []
   simp;exact QV this
  ·have:=js c r (x::cur)
   simp;exact Rj this
theorem jm (c:UInt8): ∀(l cur:List UInt8),(splitU c cur l).map (·.map UInt8.toNat)=splitB c.toNat (cur.map UInt8.toNat) (l.map UInt8.toNat)
 | [],cur=>by simp [splitU,splitB]
 |x::r,cur=>by
  rw [splitU,List.map_cons,splitB]
  by_cases h:x=c
  ·rw [if_pos h,if_pos (by rw [h])]
   rw [List.map_cons,jm c r []]
   simp
  ·rw [if_neg h,if_neg (λe=>h (UInt8.toNat_inj.mp e))]
   rw [jm c r (x::cur)]
   simp
theorem EK (b:Array UInt8) (c:UInt8):Bytes.occurrences b #[c] 0 b.size=(List.range b.size).filter λi=>b.toList[i]?==some c:=by
 unfold Bytes.occurrences
 have key: ∀(l:List Nat) (acc:List Nat×Nat),(∀i∈l,acc.2≤i)->l.Pairwise (· < ·)->(∀i∈l,i<b.size)->
   (l.foldl (λ(acc:List Nat×Nat) i=>if (decide (i≥acc.2)&&(b.extract i (i+(#[c]:Array UInt8).size)== #[c]))=true then (i::acc.1,i+(#[c]:Array UInt8).size) else acc) acc).1=(l.filter λi=>b.toList[i]?==some c).reverse++acc.1:=by
  intro l
  induction l with
  |nil=>intro acc _ _ _;simp
  |cons i l ih=>
   intro acc h1 h2 h3
   obtain ⟨p1,p2⟩:=List.pairwise_cons.mp h2
   have hi:=h3 i List.mem_cons_self
   have he:(b.extract i (i+(#[c]:Array UInt8).size)== #[c])=(b.toList[i]?==some c):=by
    have e1:b.extract i (i+1)= #[b[i]]:=by
     apply Array.ext
     ·simp;exact Rw hi
     ·intro j Wi Qa
      simp at Qa
      subst Qa
      simp
    show (b.extract i (i+1)== #[c])=_
    rw [e1]
    simp [hi]
   rw [List.foldl_cons,he]
   have VN:decide (i≥acc.2)=true:=decide_eq_true (h1 i List.mem_cons_self)
   rw [VN,Bool.true_and]
   cases hb:(b.toList[i]?==some c) with
   |true=>
    rw [if_pos rfl,ih _ (λj hj=>by have:=p1 j hj;show i+1≤j;exact RC this) p2 (λj hj=>h3 j (List.mem_cons_of_mem _ hj))]
    rw [List.filter_cons,hb]
    simp
   |false=>
    rw [if_neg (by decide),ih _ (λj hj=>h1 j (List.mem_cons_of_mem _ hj)) p2 (λj hj=>h3 j (List.mem_cons_of_mem _ hj))]
    rw [List.filter_cons,hb]
    simp
 have hm:(List.range (b.size+1-(0+(#[c]:Array UInt8).size))).map (· +0)=List.range b.size:=by simp
 rw [hm]
 have:=key (List.range b.size) ([],0) (λi _=>Nat.zero_le i) List.pairwise_lt_range (λi hi=>List.mem_range.mp hi)
 dsimp only
 rw [this]
 simp
theorem iC (b:Array UInt8) (c:UInt8):(Bytes.between b 1 ((List.range b.size).filter λi=>b.toList[i]?==some c)).map (·.toList)=splitU c [] b.toList:=by
 have key: ∀(m i last:Nat) (parts:Array (Array UInt8)),last≤i->i+m=b.size->
   (let r:=((List.range' i m).filter λi=>b.toList[i]?==some c).foldl (λ(x:Array (Array UInt8)×Nat) p=>(x.1.push (b.extract x.2 p),p+1)) (parts,last)
   (r.1.push (b.extract r.2 b.size)).toList.map (·.toList))=parts.toList.map (·.toList)++splitU c ((b.toList.take i).drop last).reverse (b.toList.drop i):=by
  intro m
  induction m with
  |zero=>
   intro i last parts h1 h2
   have hd:b.toList.drop i= []:=List.drop_eq_nil_of_le (by simp;exact zL h2)
   rw [hd,splitU]
   have ht:b.toList.take i=b.toList:=List.take_of_length_le (by simp;exact zL h2)
   rw [ht]
   simp
   exact List.take_of_length_le (by simp)
  |succ m ih=>
   intro i last parts h1 h2
   have hi:i<b.toList.length:=by simp;exact Rd h2
   rw [List.range'_succ,List.filter_cons,List.getElem?_eq_getElem hi]
   have hd:b.toList.drop i=b.toList[i]::b.toList.drop (i+1):=List.drop_eq_getElem_cons hi
   rw [hd,splitU]
   by_cases hx:b.toList[i]=c
   ·rw [if_pos hx,if_pos (by rw [hx];simp)]
    rw [List.foldl_cons]
    have:=ih (i+1) (i+1) (parts.push (b.extract last i)) (Nat.le_refl _) (by exact HB h2)
    dsimp only at this⊢
    rw [this]
    simp [List.drop_take]
   ·rw [if_neg hx,if_neg (by simpa using hx)]
    have:=ih (i+1) last parts (by exact vI h1) (by exact HB h2)
    dsimp only at this⊢
    rw [this]
    congr 2
    rw [List.take_add_one,List.getElem?_eq_getElem hi,List.drop_append_of_le_length (by simp;exact Sl h1 h2)]
    simp
 have:=key b.size 0 0 #[] (Nat.le_refl _) (by exact Qz)
 rw [List.range_eq_range']
 simpa [Bytes.between] using this
section
variable {prog:Program} {w:World} {A:Around} {E:Value->Shared->Prop} {s:Shared}
theorem Au {k:List (Array UInt8)} (hk: ∀b∈k,b.size≤sizeLine): ∀{s:Shared} {Q:List Value->Shared->Prop},(∀vs aH,fc k vs->Q vs {s with toks:=aH})->wpAny (model prog w) A (k.mapM Bytes.Kind.bytes.new) Q E s:=by
 induction k with
 |nil=>intro s Q h;rw [List.mapM_nil];exact wpAny_pure (h [] s.toks .nil)
 |cons b k ih=>
  intro s Q h
  rw [List.mapM_cons]
  refine wpAny_bind (m:=mkBytes b) (wpAny_mkBytes ?_ (hk b List.mem_cons_self))
  refine wpAny_bind (ih (λx hx=>hk x (List.mem_cons_of_mem _ hx)) λvs aH hb=>wpAny_pure (h _ aH (.cons ⟨_,rfl⟩ hb)))
theorem vm {b:Array UInt8} {c:UInt8} {t u:Tok} {Q:Value->Shared->Prop} (hb:b.size≤1000000)
  (hQ: ∀(vs:List Value) aH,fc (Bytes.between b 1 ((List.range b.size).filter λi=>b.toList[i]?==some c)) vs->Q (.ref s.heap.objs.size) {s with heap:=s.heap.push {cls:= .type "list",data:= .seq vs.toArray},toks:=aH}):
  wpAny (model prog w) A (Builtin.«bytes.split» ⟨[.bytes b t, .bytes #[c] u], []⟩) (λfin s'=> ∃v,fin= .done (.ret v)/\Q v s') E s:=by
 unfold Builtin.«bytes.split» Bytes.splitM
 dsimp only
 refine wpAny_bind (wpAny_of_eq (a:= [some (.bytes #[c] u),none]) (by rfl) ?_)
 refine wpAny_bind (m:=pure (-1)) (wpAny_pure ?_)
 refine wpAny_bind (wpAny_of_eq (a:=b) (by rfl) ?_)
 refine wpAny_bind (wpAny_of_eq (a:= #[c]) (by unfold Bytes.bytesLike;rw [KBy.buffer_eq];rfl) ?_)
 rw [if_neg (by simp)]
 have hp:(if false=true then Bytes.occurrencesFromRight b #[c] (if (-1:Int)<0 then b.size+1 else (-1:Int).toNat) else List.take (if (-1:Int)<0 then b.size+1 else (-1:Int).toNat) (Bytes.occurrences b #[c] 0 b.size))=
   (List.range b.size).filter λi=>b.toList[i]?==some c:=by
  rw [if_neg (by decide),if_pos (by decide),EK]
  refine List.take_of_length_le ?_
  have:=List.length_filter_le (λi=>b.toList[i]?==some c) (List.range b.size)
  rw [List.length_range] at this
  exact Nat.le_succ_of_le this
 rw [hp]
 have hs: ∀x∈Bytes.between b 1 ((List.range b.size).filter λi=>b.toList[i]?==some c),x.size≤sizeLine:=λx hx=>by
  have:=kh c b.toList [] x.toList (by rw [←iC];exact List.mem_map_of_mem hx)
  simp at this
  rw [sizeLine_eq]
  exact R3 hb this
 split
 ·rename_i he
  have su:((List.range b.size).filter λi=>b.toList[i]?==some c)= []:=by simpa using he
  refine wpAny_bind (wpAny_rule ?_)
  unfold Bytes.Kind.same
  refine wpAny_bind ?_
  rw [if_pos (by decide)]
  refine wpAny_bind (wpAny_typeOf (T:="bytes") (typeIs_bytes _ b t) ?_)
  rw [if_pos (by decide)]
  refine wpAny_pure ?_
  refine wpAny_bind (wpAny_newObj_type (wpAny_pure ⟨_,rfl, ?_⟩) (by size_fits))
  refine hQ [.bytes b t] s.toks ?_
  rw [su]
  have:Bytes.between b 1 []= [b]:=by simp [Bytes.between]
  rw [this]
  exact .cons ⟨t,rfl⟩ .nil
 ·refine wpAny_bind (Au hs λvs aH h=> ?_)
  refine wpAny_bind (wpAny_newObj_type (wpAny_pure ⟨_,rfl,hQ vs aH h⟩) ?_)
  have hl:vs.length=(splitU c [] b.toList).length:=by rw [←iC,List.length_map,h.length]
  have h2:=js c b.toList []
  have h4:b.toList.length=b.size:=Array.length_toList
  have h3:=sizeLine_eq
  simp only [sizeOk,List.size_toArray]
  exact Sf hb hl h2 h4 h3
end
section
variable {G:Gl} {A:Around} {μ:Mu} {σ σ':a0} {h:Heap}
theorem A6 {K:KV} (H:ai G μ σ h) {l:List Nat} {c:Nat} {v w:Value} (rv:VR G μ (.bytes l) v) (VO:VR G μ (.bytes [c]) w) (hc:l.length≤aw) (k:K (.ref σ.n) (σ.new (.list ((splitB c [] l).map .bytes)))):
  bU G A (call (.builtin "bytes.split") [v,w]) μ h K:=by
 intro g d tk os Q E q
 obtain ⟨b,t,rfl,rfl⟩:=rv
 obtain ⟨s,u,rfl,hs⟩:=VO
 obtain ⟨l⟩:=s
 obtain ⟨c',rfl,rfl⟩: ∃c':UInt8,l= [c']/\c'.toNat=c:=by
  cases l with
  |nil=>cases hs
  |cons x l=>cases l with
   |nil=>exact ⟨x,rfl,(List.cons.inj hs).1⟩
   |cons y r=>exact nomatch hs
 refine wpAny_call_entry (s:=⟨h,g,d,tk,os⟩) gx (typeIs_bytes _ b t) lD ?_ (mv _ _)
 rw [List.length_map] at hc
 refine vm (s:=⟨h,g,d,tk,os⟩) hc λvs aH hb=>q.alloc H rfl k ⟨_,⟨_,Heap.get?_push_size _ rfl⟩, ?_⟩
 have e:splitB c'.toNat [] (b.toList.map UInt8.toNat)=((Bytes.between b 1 ((List.range b.size).filter λi=>b.toList[i]?==some c')).map (·.toList)).map (·.map UInt8.toNat):=by
  rw [iC,jm];rfl
 rw [e,List.map_map,List.map_map]
 generalize Bytes.between b 1 ((List.range b.size).filter λi=>b.toList[i]?==some c')=bs at hb
 show ae _ _ vs
 induction hb with
 |nil=>exact .nil
 |cons a _ ih=>exact let ⟨t,e⟩:=a; .cons ⟨_,t,e,rfl⟩ ih
end
theorem xc:mroOf (.type "bytearray")=pure [.type "bytearray", .type "object"]:=by rw [mroOf_type];kernel_rfl
theorem pM:typeLookup (.type "bytearray") "__new__"=pure (some (.builtin "bytearray.__new__")):=by rw [typeLookup_type,builtinLookup_eq_fast];kernel_rfl
theorem eJ:Slot "bytearray" "__init__" "bytearray.__init__":=
 .of (owner:="bytearray") (n:="__init__") (by rw [typeLookup_type,builtinLookup_eq_fast];kernel_rfl) (by decide+kernel) (by decide+kernel) (by decide+kernel)
  (by first|exact .inl (by decide+kernel)|exact .inr (by decide+kernel)) (by rw [isSubtype_type];kernel_rfl)
theorem xA:TypeCalled "bytearray" "bytearray.__new__" "bytearray.__init__":=
 ⟨by decide+kernel,by decide+kernel,⟨_,_,xc⟩,madeBy_type xc pM (by decide+kernel),by decide+kernel,by rw [isSubtype_type];kernel_rfl,eJ⟩
theorem tm (a:Value):checkTypeCall "bytearray" ⟨[a], []⟩=pure ():=by kernel_rfl
theorem vd (a:Value):checkBuiltinCall "bytearray.__new__" ⟨[.type "bytearray",a], []⟩=pure ():=by kernel_rfl
theorem qf:plainId "bytearray.__new__"=true:=by decide+kernel
theorem qM:entryFor table "bytearray.__new__"=some Builtin.«list.__new__»:=entryFor_alias (id':="list.__new__") (by kernel_rfl) (by decide+kernel) (by decide+kernel) (by kernel_rfl)
theorem pB:entryFor table "bytearray.__init__"=some Builtin.«bytearray.__init__»:=entryFor_of_tree (by kernel_rfl)
theorem Fe (a b:Value):argsOk "bytearray.__init__" ⟨[a,b], []⟩:=by unfold argsOk;kernel_rfl
theorem DM (v:Value):Bytes.bindOptional "bytearray.__init__" "bytearray" ["source","encoding","errors"] [v] []=pure [some v,none,none]:=by kernel_rfl
theorem pH:typeLookup (.type "bytearray") "__release_buffer__"=pure (some (.builtin "bytearray.__release_buffer__")):=by rw [typeLookup_type,builtinLookup_eq_fast];kernel_rfl
theorem kD:typeLookup (.type "bytearray") "__buffer__"=pure (some (.builtin "bytearray.__buffer__")):=by rw [typeLookup_type,builtinLookup_eq_fast];kernel_rfl
theorem tr:typeLookup (.type "bytearray") "__bytes__"=pure none:=by rw [typeLookup_type,builtinLookup_eq_fast];kernel_rfl
theorem sS:typeLookup (.type "bytearray") "__index__"=pure none:=by rw [typeLookup_type,builtinLookup_eq_fast];kernel_rfl
theorem vy:typeLookup (.type "bytes") "__index__"=pure none:=by rw [typeLookup_type,builtinLookup_eq_fast];kernel_rfl
set_option maxRecDepth 1000000 in
set_option maxHeartbeats 4000000 in
theorem rW:("bytearray.__new__".splitOn ".__new__").headD ""="bytearray":=by simp+decide [String.splitOn,String.splitOnAux]
theorem Fp (args:Args):Dec (.builtin "bytearray.__init__" args)=false:=by show my.contains "bytearray.__init__"=false;decide+kernel
section
variable {prog:Program} {w:World} {A:Around} {s:Shared}
theorem xW {M:Model} {Q:List (Code×Pos)->Shared->Prop} (h: ∀l,ND l->Q l s):ag M A stack Q s:=λΓ p hΓ h1 h2=>by
 unfold stack
 rw [Sem.wp_stack]
 exact h _ λx hx=>by
  rcases List.mem_cons.mp hx with rfl|hx
  ·exact h1
  ·exact h2 x hx
theorem rN {M:Model} {self:Value} {Q:Bool->Shared->Prop} (h:Q false s):ag M A (Bytes.exported self) Q s:=by
 refine a8 (xW λl hl=>ah ?_)
 generalize hz:List.any l _=z
 cases z with
 |false=>exact h
 |true=>
  obtain ⟨x,hx,hf⟩:=List.any_eq_true.mp hz
  refine (Bool.false_ne_true (Eq.trans (Eq.symm ?_) hf)).elim
  clear hz hf
  have hd:=hl x hx
  obtain ⟨c,p⟩:=x
  cases c with
  |builtin id args=>
   have ne: ∀{i:String},my.contains i=true-> ¬id=i:=λa e=>by subst e;exact nomatch (show my.contains id=false from hd).symm.trans a
   have t:Bytes.decodersThatHold.contains id=false:=(Bool.or_eq_false_iff.mp ((List.contains_append ..).symm.trans (show my.contains id=false from hd))).2
   obtain ⟨pos,kw⟩:=args
   delta Bytes.exported.match_1
   refine Eq.trans (dif_neg (ne (i:="bytearray.__contains__") (by decide+kernel))) ?_
   refine Eq.trans (dif_neg (ne (i:="bytearray.__mod__") (by decide+kernel))) ?_
   refine Eq.trans (dif_neg (ne (i:="bytearray.__rmod__") (by decide+kernel))) ?_
   refine Eq.trans (dif_neg (ne (i:="_struct.pack_into.held") (by decide+kernel))) ?_
   refine Eq.trans (dif_neg (ne (i:="bytearray.find.held") (by decide+kernel))) ?_
   cases pos with
   |nil=>rfl
   |cons v tl=>exact (congrArg (Bytes.sameRef v self&& ·) t).trans (Bool.and_false _)
  |_=>rfl
theorem jH {id:String} {args:Args} {b:Builtin} {R:Flow->Shared->Prop} (hb:entryFor table id=some b) (hd:Dec (.builtin id args)=false)
  (h:ag (model prog w) (A.under (.builtin id args)) (b args) (AD (model prog w) A R) s):aT (model prog w) A (.builtin id args) R s:=by
 refine aX hd ?_
 show ag _ _ (match entryFor table id with|some b=>b args|none=>_) _ s
 rw [hb];exact h
theorem mI {self:Value} {Q:Bool->Shared->Prop} {E:Value->Shared->Prop} (hT:s.TypeIs self "bytearray") (h:Q false s):wpAny (model prog w) A (Bytes.ownRelease self) Q E s:=by
 unfold Bytes.ownRelease Bytes.slotIsOwn
 refine wpAny_bind (wpAny_bind (wpAny_specialOf hT pH ?_))
 dsimp only
 rw [if_neg (by decide+kernel)]
 have e:("bytearray.__release_buffer__".dropRight ("__release_buffer__".length+1))="bytearray":=by decide+kernel
 rw [e]
 exact wpAny_isInstance hT PySem.F.sub_bytearray_bytearray (wpAny_pure h)
theorem t8 (a:Value) {Q₁:Value->Shared->Prop} {E:Value->Shared->Prop}
  (h:Q₁ (.ref s.heap.objs.size) {s with heap:=s.heap.push {cls:= .type "bytearray",data:= .bytearray #[]}}):
  codeAny (model prog w) A (.call (.builtin "bytearray.__new__") ⟨[.type "bytearray",a], []⟩) (wants Q₁ E) s:=by
 refine codeAny_of_tree ?_
 show wpAny _ A.in1 (do checkBuiltinCall "bytearray.__new__" ⟨[.type "bytearray",a], []⟩;again (.builtin "bytearray.__new__" ⟨[.type "bytearray",a], []⟩)) _ _ s
 refine wpAny_bind (wpAny_of_eq (vd a) (wpAny_pure ⟨plainId_quiet qf _,codeAny_builtin_stack qM rfl λp st=> ?_⟩))
 rw [Around.under_plainId qf _]
 have JO:=PySem.F.sub_bytearray_bytearray
 have Br:=rW
 obtain ⟨hp,g,d,tk,os⟩:=s
 simp only [Br]
 wp_walk
 exact h
end
section
variable {prog:Program} {w:World} {A:Around} {s:Shared}
theorem gu {α:Type} {M:Model} {c:Prop} [Decidable c] {x y:Sem α} {Q:α->Shared->Prop} (h: ¬c) (k:ag M A y Q s):ag M A (if c then x else y) Q s:=(if_neg h).symm▸k
theorem rF {M:Model} {x:Addr} {b0:Array UInt8} {f:Array UInt8->Array UInt8} {Q:Unit->Shared->Prop} {E:Value->Shared->Prop} (ho:s.heap.get? x=some {cls:= .type "bytearray",data:= .bytearray b0}) (hb:(f b0).size≤1000000)
  (h: ∀h',Heap.SameBut x s.heap h'->h'.get? x=some {cls:= .type "bytearray",data:= .bytearray (f b0)}->Q () {s with heap:=h'}):wpAny M A (Bytes.write (.ref x) f) Q E s:=by
 show wpAny _ _ (updateBytearray x f) _ _ _
 unfold updateBytearray
 refine wpAny_bind (wpAny_load ho ?_)
 show wpAny _ _ (update x (Obj.mapBytearray f)>>=λ_=>lookBehind x) _ _ _
 refine wpAny_bind (wpAny_update ho ?_)
 have e:(s.heap.update x (Obj.mapBytearray f)).get? x=some {cls:= .type "bytearray",data:= .bytearray (f b0)}:=Heap.get?_update_self (Obj.mapBytearray f) ho rfl
 refine wpAny_lookBehind e ?_ (h _ (Heap.SameBut.update ..) e)
 show (if (f b0).size>sizeLine then some "bytearray:memory" else none)=none
 rw [if_neg]
 rw [sizeLine_eq];exact Rc hb
theorem tu {id:String} {b:Array UInt8} {t:Tok}:Bytes.buffer? id (.bytes b t) true=pure (some b):=by
 unfold Bytes.buffer?
 rw [KBy.special_eq KBy.look_buffer,KBy.own_buffer,KBy.own_release]
 kernel_rfl
theorem DR {b:Array UInt8} {t:Tok} {x:Addr} {R:Flow->Shared->Prop} (ho:s.heap.get? x=some {cls:= .type "bytearray",data:= .bytearray #[]}) (hb:b.size≤1000000)
  (h: ∀h',Heap.SameBut x s.heap h'->h'.get? x=some {cls:= .type "bytearray",data:= .bytearray b}->R (.ret .none) {s with heap:=h'}):
  aT (model prog w) A (.builtin "bytearray.__init__" ⟨[.ref x, .bytes b t], []⟩) R s:=by
 refine jH pB (Fp _) ?_
 have hT:s.TypeIs (.ref x) "bytearray":=⟨_,ho,rfl⟩
 unfold Builtin.«bytearray.__init__»
 dsimp only
 refine a8 (ao (mI hT ?_))
 refine gu (by decide) ?_
 refine a8 (b8 (DM _) ?_)
 dsimp only
 refine a8 (b8 (a:=()) rfl ?_)
 refine a8 (b8 (a:=()) rfl ?_)
 have e0: ∀{Q:Bool->Shared->Prop},Q false s->ag (model prog w) (A.under (.builtin "bytearray.__init__" ⟨[.ref x, .bytes b t], []⟩)) (Bytes.exported (.ref x)<||>(do return (←Bytes.exportsOf (.ref x))>0)) Q s:=λ{Q} h=>by
  refine a8 (rN ?_)
  show ag _ _ (Bytes.exportsOf (.ref x)>>=_) _ _
  refine a8 (ao (wpAny_bind (wpAny_load ho (wpAny_pure ?_))))
  exact ah h
 refine a8 (e0 ?_)
 refine gu (by decide) ?_
 refine a8 (ao (rF ho (by simp) λh1 s1 e1=> ?_))
 refine a8 (b8 (a:=none) rfl ?_)
 refine gu (by decide) ?_
 refine a8 (gu (by decide) (gu (by decide) (b8 (a:=()) rfl ?_)))
 refine a8 (b8 (KBy.special_eq vy) ?_)
 refine gu (by decide) ?_
 refine a8 (b8 (a:=some b) tu ?_)
 dsimp only
 refine a8 (gH ?_)
 refine a8 (ao (rF (s:={s with heap:=h1}) e1 hb λh2 s2 e2=> ?_))
 refine a8 (ah ?_)
 exact ah (h h2 (s1.trans s2) e2)
end
section
variable {prog:Program} {w:World} {A:Around} {s:Shared}
theorem yn {b:Array UInt8} {t:Tok} {Q:Value->Shared->Prop} (hb:b.size≤1000000)
  (h: ∀h',(∀x o,s.heap.get? x=some o->h'.get? x=some o)->h'.get? s.heap.objs.size=some {cls:= .type "bytearray",data:= .bytearray b}->Q (.ref s.heap.objs.size) {s with heap:=h'}):
  ag (model prog w) A (call (.type "bytearray") [.bytes b t]) Q s:=by
 have ft:=xA
 obtain ⟨c,tl,Bs⟩:=ft.mro
 refine eh (aX rfl ?_)
 show ag _ _ (callAny (.type "bytearray") _) _ _
 refine ah ⟨Code.quiet_builtin _ (by decide+kernel),jH F.entry_type_call (k5 _) ?_⟩
 unfold Builtin.«type.__call__»
 dsimp only
 rw [if_neg (by rw [ft.notType];decide)]
 rw [if_neg (by rw [ft.canCreate];decide)]
 refine a8 (b8 (tm _) ?_)
 refine a8 (b8 Bs ?_)
 rw [if_neg (by simp)]
 refine a8 (b8 ft.made ?_)
 dsimp only
 refine a8 (ah ?_)
 refine a8 (aq (eh (qr (codeAny_mono (t8 (.bytes b t) (Q₁:=λv s'=>v= .ref s.heap.objs.size/\s'={s with heap:=s.heap.push {cls:= .type "bytearray",data:= .bytearray #[]}}) (E:=ow) ⟨rfl,rfl⟩) λr s1 hr=> ?_))))
 rcases r with e|(v|_|_|_)
 all_goals first|exact hr.elim|skip
 obtain ⟨rfl,rfl⟩:=hr
 have e1:(s.heap.push {cls:= .type "bytearray",data:= .bytearray #[]}).get? s.heap.objs.size=some {cls:= .type "bytearray",data:= .bytearray #[]}:=Heap.get?_push_size _ rfl
 have hT:({s with heap:=s.heap.push {cls:= .type "bytearray",data:= .bytearray #[]}}:Shared).TypeIs (.ref s.heap.objs.size) "bytearray":=⟨_,e1,rfl⟩
 show ag _ _ _ _ _
 refine a8 (ao (wpAny_isInstance hT PySem.F.sub_bytearray_bytearray ?_))
 rw [if_neg (by decide)]
 refine a8 (aq ?_)
 unfold callSpecial?
 refine a8 (ao (wpAny_specialOf hT eJ.lookup ?_))
 simp only [eJ.bind]
 refine aq (a8 (ah ?_))
 refine a8 (eh (aX rfl ?_))
 show ag _ _ (do checkBuiltinCall "bytearray.__init__" _;again (.builtin "bytearray.__init__" _)) _ _
 refine a8 (ao (eJ.check _ _ _ _ _ _ _ _ hT (Fe _ _) ?_))
 refine ah ⟨Code.quiet_builtin _ (by decide+kernel),DR (s:={s with heap:=s.heap.push {cls:= .type "bytearray",data:= .bytearray #[]}}) e1 hb λh' cv e'=> ?_⟩
 refine ah ?_
 dsimp only
 rw [if_neg (by decide)]
 refine ah (h h' (λx o e=>(cv.2 x (Nat.ne_of_lt (Heap.lt_size e))).trans (Heap.get?_push_of_some _ e)) e')
end
section
variable {prog:Program} {w:World} {A:Around} {E:Value->Shared->Prop} {s:Shared}
theorem pI {self:Value} {Q:Bool->Shared->Prop} (hT:s.TypeIs self "bytearray") (h:Q true s):wpAny (model prog w) A (Bytes.slotIsOwn self "__buffer__") Q E s:=by
 unfold Bytes.slotIsOwn
 refine wpAny_bind (wpAny_specialOf hT kD ?_)
 dsimp only
 rw [if_neg (by decide+kernel)]
 have e:("bytearray.__buffer__".dropRight ("__buffer__".length+1))="bytearray":=by decide+kernel
 rw [e]
 exact wpAny_isInstance hT PySem.F.sub_bytearray_bytearray h
theorem oa {id:String} {x:Addr} {b:Array UInt8} {Q:Option (Array UInt8)->Shared->Prop} (ho:s.heap.get? x=some {cls:= .type "bytearray",data:= .bytearray b}) (h:Q (some b) s):
  wpAny (model prog w) A (Bytes.buffer? id (.ref x) true) Q E s:=by
 have hT:s.TypeIs (.ref x) "bytearray":=⟨_,ho,rfl⟩
 unfold Bytes.buffer?
 refine wpAny_bind (wpAny_specialOf hT kD ?_)
 dsimp only
 refine wpAny_bind (pI hT ?_)
 rw [if_neg (by decide)]
 refine wpAny_bind (wpAny_specialOf hT kD ?_)
 refine wpAny_bind (mI hT ?_)
 rw [if_neg (by decide)]
 refine wpAny_bind ?_
 unfold Bytes.payload Bytes.payload?
 refine wpAny_bind (wpAny_bind (wpAny_load ho (wpAny_pure (wpAny_pure (wpAny_pure h)))))
theorem yo {x:Addr} {b:Array UInt8} {Q:Value->Shared->Prop} (ho:s.heap.get? x=some {cls:= .type "bytearray",data:= .bytearray b}) (hz:b.size≤sizeLine)
  (hQ: ∀t k,Q (.bytes b t) {s with toks:=k}):
  codeAny (model prog w) A (.call (.builtin "bytes.__new__") ⟨[.type "bytes", .ref x], []⟩) (wants Q E) s:=by
 refine codeAny_of_tree ?_
 show wpAny _ A.in1 (do checkBuiltinCall "bytes.__new__" ⟨[.type "bytes", .ref x], []⟩;again (.builtin "bytes.__new__" ⟨[.type "bytes", .ref x], []⟩)) _ _ s
 refine wpAny_bind (wpAny_of_eq (F.bm_newCall _) (wpAny_pure ⟨plainId_quiet F.bm_plain _,codeAny_builtin F.bm_entry ?_⟩))
 rw [Around.under_plainId F.bm_plain _]
 have hT:s.TypeIs (.ref x) "bytearray":=⟨_,ho,rfl⟩
 unfold Builtin.«bytes.__new__»
 refine wpAny_bind (wpAny_of_eq (a:=true) rfl ?_)
 refine bm_if_false rfl ?_
 refine wpAny_bind (wpAny_of_eq F.bm_sub ?_)
 refine bm_if_false rfl ?_
 refine wpAny_bind (wpAny_of_eq (F.bm_bind _) ?_)
 refine wpAny_bind (wpAny_of_eq (a:=()) rfl ?_)
 refine wpAny_bind (wpAny_of_eq (a:=()) rfl ?_)
 refine bm_if_false rfl ?_
 refine wpAny_bind (wpAny_specialOf hT tr ?_)
 refine wpAny_bind (wpAny_bind ?_)
 show wpAny _ _ (load x>>=_) _ _ _
 refine wpAny_bind (wpAny_load ho ?_)
 refine wpAny_pure (wpAny_pure ?_)
 refine bm_if_false rfl ?_
 refine wpAny_bind (wpAny_specialOf hT sS ?_)
 refine bm_if_true rfl ?_
 have main:wpAny (model prog w) A.in1 (Bytes.buffer? "bytes.__new__" (.ref x) true) (λr s'=>r=some b/\s'=s) (λe s'=>wants Q E (.error e) s') s:=oa ho ⟨rfl,rfl⟩
 first
  |refine wpAny_bind (wpAny_mono main (λr s' hr=> ?_) λ_ _ z=>z)
  |refine wpAny_bind (wpAny_bind (wpAny_mono main (λr s' hr=> ?_) λ_ _ z=>z))
 obtain ⟨rfl,rfl⟩:=hr
 dsimp only
 refine wpAny_bind (wpAny_rule (wpAny_bind (wpAny_mkBytes ?_ hz)))
 show wpAny _ _ (if (Value.type "bytes"==Value.type "bytes")=true then _ else _) _ _ _
 refine bm_if_true (by decide) ?_
 first
  |exact wpAny_pure (hQ _ _)
  |exact wpAny_bind (wpAny_pure (wpAny_pure (hQ _ _)))
theorem nv {x:Addr} {b:Array UInt8} {Q:Value->Shared->Prop} (ho:s.heap.get? x=some {cls:= .type "bytearray",data:= .bytearray b}) (hz:b.size≤sizeLine)
  (hQ: ∀t k,Q (.bytes b t) {s with toks:=k}):wpAny (model prog w) A (call (.type "bytes") [.ref x]) Q E s:=by
 refine callType_codes (Q₁:=λobj s₁=>s₁.TypeIs obj "bytes"/\Q obj s₁) F.bm_called (F.bm_typeCall _) F.entry_object_init
  (yo ho hz λt k=>⟨PySem.W.typeIs_bytes _ _ _,hQ t k⟩) λobj s₁ h₁=> ?_
 exact ⟨h₁.1,F.args_object_init_2 obj _,object_init_meets F.bm_called.init.lookup F.bm_called.made (by decide) prog w A.in1 _ s₁ ⟨h₁.1,rfl,h₁.2⟩⟩
end
end Mine.Internal
namespace Mine.Internal
open PySem PySem.W PySem.Calls PyProof.Rows
structure OU (G:Gl) (x f:Nat) (ca fI:Addr):Prop where
 glob:globV G.K x=some (.ref ca)
 makes:makesIn G.K ca=true
 find:findIn G.K (.ref ca) "__init__"=some (some (.ref fI))
 typ:typeIn G.K (.ref fI)=some (.type "function")
 fa:G.fa f fI
 keep:keepIn G.K (.ref ca)=true
structure SV (G:Gl) (C f:Nat) (s:String) (ca fm:Addr):Prop where
 glob:globV G.K C=some (.ref ca)
 cls:d8 G.K ca
 find:findIn G.K (.ref ca) (nm s)=some (some (.ref fm))
 typ:typeIn G.K (.ref fm)=some (.type "function")
 fa:G.fa f fm
 keep:keepIn G.K (.ref fm)=true
structure tC (G:Gl):Prop where
 fn: ∀x f,tG x=some f-> ∃a,globV G.K x=some (.ref a)/\G.fa f a/\keepIn G.K (.ref a)=true
 cl: ∀x f,ub x=some f-> ∃ca fI,OU G x f ca fI
 mt: ∀C m f s,xm C m=some f->aN[m]?=some s-> ∃ca fm,SV G C f s ca fm
section
variable {G:Gl} {A:Around} {μ μ':Mu} {σ σ':a0} {h h':Heap}
noncomputable def iH (G:Gl) (h:Heap) (f:Value):Prop:= ∃k,(k=Keeper.frame∨k=Keeper.machine∨k=Keeper.boundFrame)/\Looks (model G.prog G.w) h (keeperOf f) k
theorem dG {i:String}:iH G h (.builtin i):=⟨.machine, .inr (.inl rfl),Looks.of_pure rfl⟩
theorem eE {i:String}:iH G h (.type i):=⟨.machine, .inr (.inl rfl),Looks.of_pure rfl⟩
theorem rx (K:dd G) (H:ai G μ σ h) {f:Value} (e:keepIn G.K f=true):iH G h f:=keeps_K e h (K.X.keeps H.base)
structure CallD (G:Gl) (A:Around) (f:Value) (vs:List Value) (μ:Mu) (h:Heap) (K:KV):Prop where
 keep:iH G h f
 ev:iZ G A (call f vs) μ h K
theorem mw {n:Nat} {C:aD} (hC:iJ G n C) (R:mQ A n) {f:Nat} {a:Addr} (F:G.fa f a) (H:ai G μ σ h) {as:List AV} {vs:List Value} {K:KV} (ra:ae (VR G μ) as vs) (e:C f as σ K):iZ G A (call (.ref a) vs) μ h K:=
 λg d tk os Q q=>eh (hC f a F R H ra e q)
theorem nu {l:List Nat} {b:Array UInt8} (e:b.toList.map UInt8.toNat=l):b.size=l.length:=e▸(List.length_map ..).symm
noncomputable def Gh (G:Gl) (A:Around) (μ:Mu) (σ:a0) (h:Heap) (x:Nat) (f:List AV->a0->Option (AV×a0)):Prop:=
 ∃F,mi x=some F/\ ∀{as:List AV} {vs:List Value} {K:KV},ae (VR G μ) as vs->wV (f as σ) K->CallD G A F vs μ h K
theorem u3 {x:Nat} {F:Value} {f:AV->a0->Option (AV×a0)} (hx:mi x=some F) (k:iH G h F) (q: ∀{a v} {K:KV},VR G μ a v->wV (f a σ) K->iZ G A (call F [v]) μ h K):Gh G A μ σ h x λas σ=>on1 as λa=>f a σ:=
 ⟨F,hx,λra e=>⟨k,e1 (M:=λvs=>iZ G A (call F vs) μ h _) ra e λa v r e=>q r e⟩⟩
theorem ON {x:Nat} {F:Value} {f:AV->AV->a0->Option (AV×a0)} (hx:mi x=some F) (k:iH G h F) (q: ∀{a v b w} {K:KV},VR G μ a v->VR G μ b w->wV (f a b σ) K->iZ G A (call F [v,w]) μ h K):Gh G A μ σ h x λas σ=>tE as λa b=>f a b σ:=
 ⟨F,hx,λra e=>⟨k,e2 (M:=λvs=>iZ G A (call F vs) μ h _) ra e λa v b w r1 r2 e=>q r1 r2 e⟩⟩
theorem Bf {n:Nat} (R:cy A n) (H:ai G μ σ h) {a:AV} {v:Value} {K:KV} (r:VR G μ a v) (e:wV (dY a λr=>bA σ r λo=>match o with
  | .list xs=>match allInts xs with|some l=>if l.length≤aw then some (.bytes l,σ) else none|none=>none
  | .fL l=>if l.length≤aw then some (.bytes l,σ) else none
  |_=>none) K):iZ G A (call (.type "bytes") [v]) μ h K:=by
 refine eR r e λr b hb e=> ?_
 obtain ⟨o,ho,e⟩:=eO e
 cases o with
 |list xs=>exact let ⟨vs,l1,r1⟩:=H.obj ho hb;(EA R H l1.isList r1 e).d
 |fL l=>
  obtain ⟨hc,k⟩:=bG e
  obtain ⟨bs,e1,e2⟩:=H.obj ho hb
  exact λg d tk os Q q=>ao (nv (s:=⟨h,g,d,tk,os⟩) e1 (by rw [nu e2];exact bj hc) λt k'=>q.same H k ⟨bs,t,rfl,e2⟩)
 |_=>exact e.elim
theorem Eg (H:ai G μ σ h) {a:AV} {v:Value} {K:KV} (r:VR G μ a v) (e:wV (oy a λl=>if l.length≤aw then some (.ref σ.n,σ.new (.fL l)) else none) K):iZ G A (call (.type "bytearray") [v]) μ h K:=by
 refine eY r e λb t e=> ?_
 obtain ⟨hc,k⟩:=bG e
 exact λg d tk os Q q=>yn (s:=⟨h,g,d,tk,os⟩) (by rw [nu rfl];exact hc) λh' up e'=>q.gE H k up (Heap.get?_none_of_le (Nat.le_refl _)) ⟨_,e'⟩ ⟨b,e',rfl⟩
theorem Fo (K:dd G) {n:Nat} (R:cy A n) (H:ai G μ σ h):bX (Gh G A μ σ h) Ia:=
 .cons (u3 rfl dG λr e=>(Ir H r e).d)<| .cons (u3 rfl eE λr e=>Bf R H r e)<| .cons (ON rfl dG λr1 r2 e=>(IP K H r1 r2 e).d)<| .cons (u3 rfl eE λr e=>(Gf H r e).d)<|
 .cons (u3 rfl dG λr e=>(Hs K H r e).d)<| .cons (u3 rfl eE λr e=>(Em H r e).d)<| .cons (u3 rfl eE λr e=>Eg H r e)<| .cons (ON rfl dG λr1 r2 e=>(I3 R H r1 r2 e).d) .nil
theorem xC (X:dd G) {n:Nat} (R:cy A n) {x:Nat} {f:Value} {as:List AV} {vs:List Value} {K:KV} (H:ai G μ σ h) (rf:VR G μ (.gJ x) f) (ra:ae (VR G μ) as vs) (e:wV (fu x as σ) K):CallD G A f vs μ h K:=by
 unfold fu at e
 cases hl:Ia.lookup x with
 |none=>rw [hl] at e;exact e.elim
 |some F=>
  rw [hl] at e
  obtain ⟨F0,h1,h2⟩:=(Fo X R H).at hl
  exact (Option.some.inj ((X.blt _ _ h1).symm.trans rf))▸h2 ra e
theorem yE {a:Addr} (e:h.get? a=some emptyDict):h.Ns1 a λ_=>none:=
 Heap.Ns1.of_empty ⟨_, #[],_,e,rfl,λx hx=>(nomatch hx),λx=>rfl⟩
theorem Ut {u n c:Nat} (h:u+40*n+200<c):u+1+40*n+180<c:=by exact QZ h
theorem Uq {u n c:Nat} (h:u+4*n<c):u+1+4*n<c+2:=by exact Ql h
theorem AH (K:dd G) {n:Nat} {C:aD} (hC:iJ G n C) (R:cy A n) {x f:Nat} {ca fI:Addr} (c:OU G x f ca fI) (H:ai G μ σ h) {as:List AV} {vs:List Value} {KK:KV}
  (ra:ae (VR G μ) as vs) (e:C f (.ref σ.n::as) (σ.new (.inst x [])) (uV σ.n KK)):CallD G A (.ref ca) vs μ h KK:=by
 refine ⟨rx K H c.keep,λg d tk os Q q=>eh (HS (K:=G.K) (K.X.keeps H.base) c.makes c.find c.typ ?_)⟩
 have na:h.get? (h.objs.size+1)=none:=Heap.get?_none_of_le (Nat.le_succ _)
 have nd:h.get? h.objs.size=none:=Heap.get?_none_of_le (Nat.le_refl _)
 have ea:((h.push emptyDict).push (instObj ca h.objs.size)).get? (h.objs.size+1)=some (instObj ca h.objs.size):=by heap_get
 have ed:((h.push emptyDict).push (instObj ca h.objs.size)).get? h.objs.size=some emptyDict:=Heap.get?_push_of_some _ (Heap.get?_push_size _ rfl)
 obtain ⟨S,H'⟩:=gE (h':=(h.push emptyDict).push (instObj ca h.objs.size)) (a:=h.objs.size+1) (d:=h.objs.size) (o:= .inst x []) H (λy o z=>Heap.get?_push_of_some _ (Heap.get?_push_of_some _ z)) na nd ⟨_,ea⟩ ⟨_,ed⟩
  ⟨ca,λ_=>none,c.glob,ea,yE ed,λy hy=>absurd rfl hy,λy s _=>rfl⟩
 have v1:VR G (μ++ [⟨h.objs.size+1,h.objs.size⟩]) (.ref σ.n) (.ref (h.objs.size+1)):=iK H ⟨h.objs.size+1,h.objs.size⟩
 exact hC f fI c.fa (K:=uV σ.n KK) (A:=A.under (.builtin "type.__call__" ⟨.ref ca::vs, []⟩)) ⟨R.handled,Uq R.depth,Ut R.units⟩ H' (.cons v1 (ra.imp λ_ _ z=>z.mono ⟨_,rfl⟩)) e λv V μ2 h2 b9 σ2 k rv S2 H2=>
  ⟨by have z:V= .none:=k.1;subst z;exact rv,q _ _ _ _ _ _ k.2 (v1.mono S2.pre) (S.andThen S2) H2⟩
theorem Ar (X:dd G) (GF:tC G) {n:Nat} {C:aD} (hC:iJ G n C) (R:cy A n) {FV:AV} {F:Value} (rf:VR G μ FV F) (H:ai G μ σ h) {as:List AV} {vs:List Value} {K:KV}
  (ra:ae (VR G μ) as vs) (e:wC C FV as σ K):CallD G A F vs μ h K:=by
 cases FV with
 |gJ x=>
  have Qb:globV G.K x=some F:=rf
  unfold wC at e
  dsimp only at e
  cases hx:tG x with
  |some f=>
   rw [hx] at e
   obtain ⟨a,g1,g2,g3⟩:=GF.fn x f hx
   exact Option.some.inj (g1.symm.trans Qb)▸⟨rx X H g3,mw hC R.c g2 H ra e⟩
  |none=>
   rw [hx] at e
   cases hy:ub x with
   |some f=>
    rw [hy] at e
    obtain ⟨ca,fI,c⟩:=GF.cl x f hy
    exact Option.some.inj (c.glob.symm.trans Qb)▸AH X hC R c H ra e
   |none=>rw [hy] at e;exact xC X R H rf ra e
 |_=>exact e.elim
end
end Mine.Internal
namespace Mine.Internal
noncomputable def mK (C:aD):Prop:= ∀{f:Nat} {as:List AV} {σ:a0} {K:KV},C f as σ K-> ∃v σ',K v σ'
section
variable {C:aD} {σ:a0} {ρ:Loc}
theorem mC {o:Option (AV×a0)} {Q:KV} (e:wV o Q): ∃v σ',Q v σ':=let ⟨p,_,q⟩:=eP e;⟨p.1,p.2,q⟩
theorem dy {α:Type} {o:Option α} {Q:α->Prop} (e:oB o Q): ∃a,Q a:=let ⟨a,_,q⟩:=eP e;⟨a,q⟩
theorem IB {v:AV} {P N:Prop} (e:jN v P N):P∨N:=by
 cases v with
 |bool b=>cases b with
  |true=>exact .inl e
  |false=>exact .inr e
 |_=>exact e.elim
theorem jq {v:AV} {P N R:Prop} (p:P->R) (n:N->R) (e:jN v P N):R:=(IB e).elim p n
theorem MZ (hC:mK C) {fv:AV} {as:List AV} {Q:KV} (e:wC C fv as σ Q): ∃v σ',Q v σ':=by
 cases fv with
 |gJ x=>
  unfold wC at e
  dsimp only at e
  cases hx:tG x with
  |some f=>rw [hx] at e;exact hC e
  |none=>
   rw [hx] at e
   cases hy:ub x with
   |some f=>rw [hy] at e;exact let ⟨_,_,_,q⟩:=hC e;⟨_,_,q⟩
   |none=>rw [hy] at e;exact mC e
 |_=>exact e.elim
theorem NL (hC:mK C) {o:AV} {m:Nat} {as:List AV} {σ':a0} {Q:KV} (e:wM C σ o m as σ' Q): ∃v σ',Q v σ':=by
 unfold wM at e
 cases hx:gp σ o m with
 |some f=>rw [hx] at e;exact hC e
 |none=>rw [hx] at e;exact mC e.2
mutual
theorem vQ:(t:NT)-> ∀{v:AV} {ρ:Loc} {Q:Loc->Prop},wN σ t v ρ Q-> ∃ρ',Q ρ'
 | .name x=>λe=>⟨_,e⟩
 | .tup ts=>λe=>let ⟨_,e⟩:=dy e;qx ts e
theorem qx:(ts:List NT)-> ∀{xs:List AV} {ρ:Loc} {Q:Loc->Prop},jL σ ts xs ρ Q-> ∃ρ',Q ρ'
 | []=>λe=>by
  rename_i xs _ _
  cases xs with
  |nil=>exact ⟨_,e⟩
  |cons=>exact e.elim
 |t::ts=>λe=>by
  rename_i xs _ _
  cases xs with
  |nil=>exact e.elim
  |cons x xs=>exact let ⟨_,e⟩:=vQ t e;qx ts e
end
theorem BC {t:NT} {vs:List AV} {Q:Loc->Prop} (e:wY σ t vs ρ Q): ∃ρ',Q ρ':=by
 cases vs with
 |nil=>exact e.elim
 |cons v r=>cases r with
  |nil=>exact vQ t e
  |cons _ _=>cases t with
   |tup ts=>exact qx ts e
   |name=>exact e.elim
theorem Ba {s:cb} {t:NT} {c:Loc->a0->(Bool->a0->Prop)->Prop} {el:Loc->a0->KV->Prop} (hc: ∀{ρ σ Q},c ρ σ Q-> ∃b σ',Q b σ') (hl: ∀{ρ σ Q},el ρ σ Q-> ∃b σ',Q b σ') {Q:List AV->a0->Prop} (f:Nat):
  ∀{k:Nat} {acc:List AV} {ρ:Loc} {σ:a0},bE s t c el f k acc ρ σ Q-> ∃xs σ',Q xs σ':=by
 induction f with
 |zero=>exact λe=>e.elim
 |succ f ih=>
  intro k acc ρ σ e
  obtain ⟨o,e⟩:=dy e
  cases o with
  |none=>exact ⟨_,_,e⟩
  |some vs=>
   obtain ⟨ρ1,e⟩:=BC e
   obtain ⟨b,σ1,e⟩:=hc e
   cases b with
   |false=>exact ih e
   |true=>exact let ⟨_,_,e⟩:=hl e;ih e
theorem qP {n:Loc->a0->Prop} {Q:KF} {fl:Fl} (h:n ρ σ-> ∃fl ρ' σ',Q fl ρ' σ') (e:fU n Q fl ρ σ): ∃fl ρ' σ',Q fl ρ' σ':=by
 cases fl with
 |ret v=>exact ⟨_,_,_,e⟩
 |next=>exact h e
 |cont=>exact h e
theorem EM {s:cb} {t:NT} {b:Loc->a0->KF->Prop} (hb: ∀{ρ σ Q},b ρ σ Q-> ∃fl ρ' σ',Q fl ρ' σ') {Q:KF} (f:Nat): ∀{k:Nat} {ρ:Loc} {σ:a0},dm s t b f k ρ σ Q-> ∃fl ρ' σ',Q fl ρ' σ':=by
 induction f with
 |zero=>exact λe=>e.elim
 |succ f ih=>
  intro k ρ σ e
  obtain ⟨o,e⟩:=dy e
  cases o with
  |none=>exact ⟨_,_,_,e⟩
  |some vs=>exact let ⟨ρ1,e⟩:=BC e;let ⟨fl,ρ2,σ2,e⟩:=hb e;qP (λe=>ih e) e
theorem ye {t:Loc->a0->KV->Prop} {b:Loc->a0->KF->Prop} (ht: ∀{ρ σ Q},t ρ σ Q-> ∃v σ',Q v σ') (hb: ∀{ρ σ Q},b ρ σ Q-> ∃fl ρ' σ',Q fl ρ' σ') {Q:KF} (f:Nat): ∀{ρ:Loc} {σ:a0},d9 t b f ρ σ Q-> ∃fl ρ' σ',Q fl ρ' σ':=by
 induction f with
 |zero=>exact λe=>e.elim
 |succ f ih=>
  intro ρ σ e
  obtain ⟨v,σ1,e⟩:=ht e
  exact jq (λe=>let ⟨fl,ρ2,σ2,e⟩:=hb e;qP (λe=>ih e) e) (λe=>⟨_,_,_,e⟩) e
theorem wq {Q:KV} {x:Nat} (e:wE C (.var x) ρ σ Q): ∃v,ρ x=some v/\Q v σ:=by
 have e:(match (generalizing:=false) ρ x with|some v=>Q v σ|none=>False):=e
 cases h:ρ x with
 |none=>rw [h] at e;exact e.elim
 |some v=>rw [h] at e;exact ⟨v,rfl,e⟩
theorem tY {Q:KV} {x:Nat} (e:wE C (.glob x) ρ σ Q):xE x=true/\Q (rM x) σ:=by
 have e:(match (generalizing:=false) xE x with|true=>Q (rM x) σ|false=>False):=e
 cases h:xE x with
 |false=>rw [h] at e;exact e.elim
 |true=>rw [h] at e;exact ⟨rfl,e⟩
theorem tJ {o:BOp} {x y:AV} {Q:KV} (e:uT o x Q y σ):wV (bin o x y σ) Q:=by
 unfold uT at e
 cases h:bin o x y σ with
 |none=>rw [h] at e;exact e
 |some r=>rw [h] at e;exact e
theorem qV {b:Bool} {P:Prop} (e:match (generalizing:=false) b with|true=>P|false=>False):b=true/\P:=by
 cases b with
 |true=>exact ⟨rfl,e⟩
 |false=>exact e.elim
mutual
theorem aV (hC:mK C):(e:IE)-> ∀{ρ:Loc} {σ:a0} {Q:KV},wE C e ρ σ Q-> ∃v σ',Q v σ'
 | .lit v=>λe=>⟨_,_,e⟩
 | .var x=>λe=>let ⟨_,_,e⟩:=wq (C:=C) e;⟨_,_,e⟩
 | .glob x=>λe=>⟨_,_,(tY (C:=C) e).2⟩
 | .bin o a b=>λe=>let ⟨_,_,e⟩:=aV hC a e;let ⟨_,_,e⟩:=aV hC b e;mC (tJ e)
 | .cmp o a b=>λe=>let ⟨_,_,e⟩:=aV hC a e;let ⟨_,_,e⟩:=aV hC b e;let ⟨_,e⟩:=dy (u5 e);⟨_,_,e⟩
 | .not a=>λe=>let ⟨_,_,e⟩:=aV hC a e;jq (λe=>⟨_,_,e⟩) (λe=>⟨_,_,e⟩) e
 | .and a b=>λe=>let ⟨_,_,e⟩:=aV hC a e;jq (λe=>aV hC b e) (λe=>⟨_,_,e⟩) e
 | .or a b=>λe=>let ⟨_,_,e⟩:=aV hC a e;jq (λe=>⟨_,_,e⟩) (λe=>aV hC b e) e
 | .ite c a b=>λe=>let ⟨_,_,e⟩:=aV hC c e;jq (λe=>aV hC a e) (λe=>aV hC b e) e
 | .attr a x=>λe=>let ⟨_,_,e⟩:=aV hC a e;let ⟨_,e⟩:=dy e;⟨_,_,e⟩
 | .idx a i=>λe=>let ⟨_,_,e⟩:=aV hC a e;let ⟨_,_,e⟩:=aV hC i e;let ⟨_,e⟩:=dy e;⟨_,_,e⟩
 | .sl a lo hi=>λe=>let ⟨_,_,e⟩:=aV hC a e;mC e
 | .rev a=>λe=>let ⟨_,_,e⟩:=aV hC a e;mC e
 | .list es=>λe=>let ⟨_,_,e⟩:=eV hC es e;⟨_,_,(qV e).2⟩
 | .tup es=>λe=>let ⟨_,_,e⟩:=eV hC es e;⟨_,_,(qV e).2⟩
 | .dict ks es=>λe=>let ⟨_,_,e⟩:=eV hC es e;⟨_,_,e⟩
 | .call f es=>λe=>let ⟨_,_,e⟩:=aV hC f e;let ⟨_,_,e⟩:=eV hC es e;MZ hC e
 | .bc o m es=>λe=>let ⟨_,_,e⟩:=aV hC o e;let ⟨_,_,e⟩:=eV hC es e;NL hC e
 | .comp elt t k es ifs free=>λe=>let ⟨_,_,e⟩:=eV hC es e;let ⟨_,e⟩:=dy e;let ⟨_,_,e⟩:=Ba (λe=>BS hC ifs e) (λe=>aV hC elt e) turns (qV e).2;⟨_,_,e⟩
 | .fail=>λe=>e.elim
theorem eV (hC:mK C):(es:List IE)-> ∀{ρ:Loc} {σ:a0} {Q:List AV->a0->Prop},wEs C es ρ σ Q-> ∃v σ',Q v σ'
 | []=>λe=>⟨_,_,e⟩
 |e::r=>λq=>let ⟨_,_,q⟩:=aV hC e q;let ⟨_,_,q⟩:=eV hC r q;⟨_,_,q⟩
theorem BS (hC:mK C):(es:List IE)-> ∀{ρ:Loc} {σ:a0} {Q:Bool->a0->Prop},wK C es ρ σ Q-> ∃v σ',Q v σ'
 | []=>λe=>⟨_,_,e⟩
 |e::r=>λq=>let ⟨_,_,q⟩:=aV hC e q;jq (λq=>BS hC r q) (λq=>⟨_,_,q⟩) q
end
mutual
theorem LB (hC:mK C):(s:IS)-> ∀{ρ:Loc} {σ:a0} {Q:KF},wS C s ρ σ Q-> ∃fl ρ' σ',Q fl ρ' σ'
 | .expr e=>λq=>let ⟨_,_,q⟩:=aV hC e q;⟨_,_,_,q⟩
 | .asg t e=>λq=>let ⟨_,_,q⟩:=aV hC e q;let ⟨_,q⟩:=vQ t q;⟨_,_,_,q⟩
 | .aA o x e=>λq=>let ⟨_,_,q⟩:=aV hC e q;let ⟨_,_,q⟩:=aV hC o q;let ⟨_,q⟩:=dy q;⟨_,_,_,q⟩
 | .dM o i e=>λq=>let ⟨_,_,q⟩:=aV hC e q;let ⟨_,_,q⟩:=aV hC o q;let ⟨_,_,q⟩:=aV hC i q;let ⟨_,q⟩:=dy q;⟨_,_,_,q⟩
 | .lx o1 i1 o2 i2 e=>λq=>by
  obtain ⟨_,_,q⟩:=aV hC e q
  obtain ⟨xs,q⟩:=dy q
  cases xs with
  |nil=>exact q.elim
  |cons x r=>cases r with
   |nil=>exact q.elim
   |cons y r=>cases r with
    |cons _ _=>exact q.elim
    |nil=>exact let ⟨_,_,q⟩:=aV hC o1 q;let ⟨_,_,q⟩:=aV hC i1 q;let ⟨_,q⟩:=dy q;let ⟨_,_,q⟩:=aV hC o2 q;let ⟨_,_,q⟩:=aV hC i2 q;let ⟨_,q⟩:=dy q;⟨_,_,_,q⟩
 | .ret e=>λq=>let ⟨_,_,q⟩:=aV hC e q;⟨_,_,_,q⟩
 | .iff c a b=>λq=>let ⟨_,_,q⟩:=aV hC c q;jq (λq=>j6 hC a q) (λq=>j6 hC b q) q
 | .kS c b=>λq=>ye (λq=>aV hC c q) (λq=>j6 hC b q) turns q
 | .cY t k es b=>λq=>let ⟨_,_,q⟩:=eV hC es q;let ⟨_,q⟩:=dy q;EM (λq=>j6 hC b q) turns (qV q).2
 | .cont=>λq=>⟨_,_,_,q⟩
 | .fail=>λq=>q.elim
theorem j6 (hC:mK C):(ss:List IS)-> ∀{ρ:Loc} {σ:a0} {Q:KF},wSs C ss ρ σ Q-> ∃fl ρ' σ',Q fl ρ' σ'
 | []=>λe=>⟨_,_,_,e⟩
 |s::r=>λq=>by
  obtain ⟨fl,_,_,q⟩:=LB hC s q
  cases fl with
  |next=>exact j6 hC r q
  |cont=>exact ⟨_,_,_,q⟩
  |ret v=>exact ⟨_,_,_,q⟩
end
theorem tT: ∀(n:Nat),mK (callI n)
 |0=>λe=>by rw [tI] at e;exact e.elim
 |n+1=>λe=>by
  rw [mq] at e
  obtain ⟨fn,e⟩:=dy e
  obtain ⟨bs,e⟩:=dy e
  obtain ⟨fl,_,_,e⟩:=j6 (tT n) fn.body e
  cases fl with
  |ret v=>exact ⟨_,_,e⟩
  |next=>exact ⟨_,_,e⟩
  |cont=>exact e.elim
end
end Mine.Internal
namespace Mine.Internal
open PySem PySem.W PySem.Calls PyProof.Rows
section
variable {G:Gl} {A:Around} {μ μ':Mu} {σ σ':a0} {h h':Heap}
theorem ji {r:Nat} {xs:List AV} (hr:σ.get r=some (.list xs)):cM σ (.ref r)=1:=by unfold cM;dsimp only;rw [hr]
theorem jg {r:Nat} {es:List (AV×AV)} (hr:σ.get r=some (.dict es)):cM σ (.ref r)=2:=by unfold cM;dsimp only;rw [hr]
theorem pP {l:List (Nat×(List AV->Option (AV×a0)))} {m:Nat} {as:List AV} {K:KV} (e:wV (match (generalizing:=false) l.lookup m with|some g=>g as|none=>none) K): ∃g,l.lookup m=some g/\wV (g as) K:=by
 cases h:l.lookup m with
 |none=>rw [h] at e;exact e.elim
 |some g=>rw [h] at e;exact ⟨g,rfl,e⟩
noncomputable def Fw (G:Gl) (A:Around) (μ:Mu) (h:Heap) (ov:Value) (k m:Nat) (f:List AV->Option (AV×a0)):Prop:=
 ∃i,jx k m=some i/\ ∀{as:List AV} {vs:List Value} {K:KV},ae (VR G μ) as vs->wV (f as) K->bU G A (call (.builtin i) (ov::vs)) μ h K
theorem yu {ov:Value} {k m:Nat} {i:String} {f:AV->Option (AV×a0)} (hm:jx k m=some i) (q: ∀{a v} {K:KV},VR G μ a v->wV (f a) K->bU G A (call (.builtin i) [ov,v]) μ h K):Fw G A μ h ov k m λas=>on1 as f:=
 ⟨i,hm,λra e=>e1 (M:=λvs=>bU G A (call (.builtin i) (ov::vs)) μ h _) ra e λa v r e=>q r e⟩
theorem DW (H:ai G μ σ h) {r:Nat} {xs:List AV} {b:bu} (hr:σ.get r=some (.list xs)) (hb:μ[r]?=some b):bX (Fw G A μ h (.ref b.a) 1) (Cj xs r σ):=
 .cons (yu rfl λr1 e=>let ⟨hc,k⟩:=bG e;wX H hr hb r1 hc k)<|
 .cons (yu rfl λr1 e=>eI (M:=λv=>bU G A (call (.builtin "list.pop") [.ref b.a,v]) μ h _) r1 e λi t e=>by
  cases xs with
  |nil=>exact e.elim
  |cons v xs=>exact let ⟨⟨hi,hc⟩,k⟩:=bG e;hi▸FD H hr hb hc k)<|
 .cons (yu rfl λr1 e=>eR (M:=λv=>bU G A (call (.builtin "list.extend") [.ref b.a,v]) μ h _) r1 e λq c hc e=>by
  obtain ⟨ys,ws,hq,l2,r2,n2,e⟩:=eL H hc e
  obtain ⟨⟨_,hl⟩,k⟩:=bG e
  exact xT H hr hb hq hc hl k) .nil
theorem AR (H:ai G μ σ h) {l:List Nat} {ov:Value} (ro:VR G μ (.bytes l) ov):bX (Fw G A μ h ov 3) (BM l σ):=
 .cons (yu rfl λr1 e=>eR (M:=λv=>bU G A (call (.builtin "bytes.join") [ov,v]) μ h _) r1 e λq c hc e=>by
  obtain ⟨ys,ws,hq,l2,r2,n2,e⟩:=eL H hc e
  cases ha:et ys with
  |none=>rw [ha] at e;exact e.elim
  |some bs=>rw [ha] at e;exact let ⟨hl,k⟩:=bG e;Ea H hq hc ro ha hl k)<|
 .cons (yu rfl λ{a v} _ r1 e=>by
  cases a with
  |bytes c=>cases c with
   |nil=>exact e.elim
   |cons c r=>cases r with
    |nil=>exact let ⟨hl,k⟩:=bG e;A6 H ro r1 hl k
    |cons _ _=>exact e.elim
  |_=>exact e.elim) .nil
theorem wL {o:AV} {m:Nat} {as:List AV} {K:KV} (e:wV (d7 o m as σ) K): ∃i,jx (cM σ o) m=some i:=by
 cases o with
 |ref r=>
  obtain ⟨o,hr,e⟩:=eO e
  cases o with
  |list xs=>
   obtain ⟨g,hg,_⟩:=pP (l:=Cj xs r σ) (m:=m) (as:=as) (K:=K) e
   exact ji hr▸bX.at (P:=λm _=> ∃i,jx 1 m=some i) (.cons ⟨_,rfl⟩ (.cons ⟨_,rfl⟩ (.cons ⟨_,rfl⟩ .nil))) hg
  |dict es=>exact (bG e).1▸jg hr▸⟨"dict.get",rfl⟩
  |_=>exact e.elim
 |bytes l=>
  obtain ⟨g,hg,_⟩:=pP (l:=BM l σ) (m:=m) (as:=as) (K:=K) e
  exact bX.at (P:=λm _=> ∃i,jx 3 m=some i) (.cons ⟨_,rfl⟩ (.cons ⟨_,rfl⟩ .nil)) hg
 |_=>exact e.elim
theorem zQ (X:dd G) {n:Nat} (R:cy A n) (H:ai G μ σ h) {o:AV} {ov:Value} {m:Nat} {as:List AV} {vs:List Value} {K:KV} (ro:VR G μ o ov) (ra:ae (VR G μ) as vs) (e:wV (d7 o m as σ) K):
  ∃i,jx (cM σ o) m=some i/\bU G A (call (.builtin i) (ov::vs)) μ h K:=by
 cases o with
 |ref r=>
  obtain ⟨b,hb,rfl⟩:=ro
  obtain ⟨o,hr,e⟩:=eO e
  cases o with
  |list xs=>
   obtain ⟨g,hg,e⟩:=pP (l:=Cj xs r σ) (m:=m) (as:=as) (K:=K) e
   exact ji hr▸let ⟨i,h1,h2⟩:=(DW H hr hb).at hg;⟨i,h1,h2 ra e⟩
  |dict es=>
   obtain ⟨hm,e⟩:=bG e
   exact hm▸jg hr▸⟨"dict.get",rfl,e2 (M:=λvs=>bU G A (call (.builtin "dict.get") (.ref b.a::vs)) μ h _) ra e λk kv d dv r1 r2 e=>by
    cases hg:cJ σ k es with
    |none=>rw [hg] at e;exact e.elim
    |some w=>rw [hg] at e;exact He X R H hr hb r1 r2 hg e⟩
  |_=>exact e.elim
 |bytes l=>
  obtain ⟨g,hg,e⟩:=pP (l:=BM l σ) (m:=m) (as:=as) (K:=K) e
  exact let ⟨i,h1,h2⟩:=(AR H ro).at hg;⟨i,h1,h2 ra e⟩
 |_=>exact e.elim
noncomputable def CB (T:String) (m:Nat) (i:String):Prop:= ∃name,aN[m]?=some name/\Slot T (nm name) i/\typeOf (.builtin i)=pure (.type "method_descriptor")
theorem E9:bX (CB "list") (vA 1):= .cons ⟨_,rfl,slot_list_append,type_list_append⟩<| .cons ⟨_,rfl,PySem.F.slot_list_pop,PySem.F.type_list_pop⟩<| .cons ⟨_,rfl,PySem.F.slot_list_extend,PySem.F.type_list_extend⟩ .nil
theorem E8:bX (CB "dict") (vA 2):= .cons ⟨_,rfl,PySem.F.slot_dict_get,PySem.F.type_dict_get⟩ .nil
theorem B7:bX (CB "bytes") (vA 3):= .cons ⟨_,rfl,gT,nA⟩<| .cons ⟨_,rfl,gx,me⟩ .nil
theorem zD {T:String} {l:List (Nat×String)} (S:bX (CB T) l) {m:Nat} {s i:String} (hs:aN[m]?=some s) (e:l.lookup m=some i) {ov:Value} {pl:Sem Bool} {Q:Value×List Value->Shared->Prop} {E:Value->Shared->Prop} {g:Array GenState} {d:Drawn} {tk:Nat} {os:OsState}
  (hT:(⟨h,g,d,tk,os⟩:Shared).TypeIs ov T) (pa:PlainAttrs T) (hd: ∀a,ov= .ref a-> ∃o,h.get? a=some o/\o.dict=none) (q:Q (.builtin i, [ov]) ⟨h,g,d,tk,os⟩):wpAny (model G.prog G.w) A (getMethod ov (nm s) pl) Q E ⟨h,g,d,tk,os⟩:=by
 obtain ⟨name,hn,sl,ty⟩:=S.at e
 exact getMethod_builtin (s:=⟨h,g,d,tk,os⟩) hT pa (Option.some.inj (hn.symm.trans hs)▸sl) ty hd q
theorem DY (H:ai G μ σ h) {o:AV} {ov:Value} {m:Nat} {s i:String} (hs:aN[m]?=some s) (ro:VR G μ o ov) (e:jx (cM σ o) m=some i) {pl:Sem Bool} {Q:Value×List Value->Shared->Prop} {E:Value->Shared->Prop}
  {g:Array GenState} {d:Drawn} {tk:Nat} {os:OsState} (q:Q (.builtin i, [ov]) ⟨h,g,d,tk,os⟩):wpAny (model G.prog G.w) A (getMethod ov (nm s) pl) Q E ⟨h,g,d,tk,os⟩:=by
 cases o with
 |ref r=>
  obtain ⟨b,hb,rfl⟩:=ro
  have no: ∀{k},cM σ (.ref r)=k->k=0->wpAny (model G.prog G.w) A (getMethod (.ref b.a) (nm s) pl) Q E ⟨h,g,d,tk,os⟩:=λz y=>by subst y;rw [z] at e;exact nomatch (show none=some i from e)
  cases hr:σ.get r with
  |none=>exact no (by unfold cM;dsimp only;rw [hr]) rfl
  |some o=>cases o with
   |list xs=>
    rw [ji hr] at e
    obtain ⟨vs,⟨n,l1⟩,r1⟩:=H.obj hr hb
    exact zD E9 hs e ⟨_,l1,rfl⟩ PySem.F.plainAttrs_list (λa e=>⟨_,Value.ref.inj e▸l1,rfl⟩) q
   |dict es=>
    rw [jg hr] at e
    obtain ⟨ob,h1,h2,h3⟩:=sG H hr hb
    exact zD E8 hs e ⟨_,h1,h2⟩ PySem.F.plainAttrs_dict (λa e=>⟨_,Value.ref.inj e▸h1,h3⟩) q
   |_=>exact no (by unfold cM;dsimp only;rw [hr]) rfl
 |bytes l=>
  obtain ⟨b,t,rfl,_⟩:=ro
  exact zD B7 hs e (typeIs_bytes _ b t) PySem.W.FB.plainAttrs_bytes (λa e=>nomatch e) q
 |_=>exact nomatch (show none=some i from e)
theorem Ew (X:dd G) (GF:tC G) {n:Nat} {C:aD} (hC:iJ G n C) (R:cy A n) {o:AV} {ov:Value} {m:Nat} {s:String} (hs:aN[m]?=some s) (H:ai G μ σ h) (ro:VR G μ o ov)
  {VP:List AV} {σ0:a0} {K0:KV} (e0:wM C σ o m VP σ0 K0) {pl:Sem Bool} {Q:Value×List Value->Shared->Prop} {E:Value->Shared->Prop} {g:Array GenState} {d:Drawn} {tk:Nat} {os:OsState}
  (q: ∀fx:Value×List Value,(∀{μ2:Mu} {σ2:a0} {h2:Heap} {as:List AV} {vs:List Value} {K:KV},wM C σ o m as σ2 K->Step aS μ h μ2 h2->ai G μ2 σ2 h2->ae (VR G μ2) as vs->CallD G A fx.1 (fx.2++vs) μ2 h2 K)->Q fx ⟨h,g,d,tk,os⟩):
  wpAny (model G.prog G.w) A (getMethod ov (nm s) pl) Q E ⟨h,g,d,tk,os⟩:=by
 cases hf:gp σ o m with
 |some f=>
  have hm:oB (gp σ o m) (· =f):=hf▸rfl
  obtain ⟨r,rfl,hm⟩:=Ik hm
  obtain ⟨c,fs,hr,hm⟩:=eN hm
  obtain ⟨b,hb,rfl⟩:=ro
  cases hl:flook m fs with
  |some u=>rw [hl] at hm;exact hm.elim
  |none=>
   rw [hl] at hm
   obtain ⟨f',pf,z8⟩:=eP hm
   obtain ⟨ca,fm,M⟩:=GF.mt c m f (s:=s) (z8▸pf) hs
   obtain ⟨Vp,m',od,e1,e2,e3,e5,e4,I,hk⟩:=rp H hr hb (nm s)
   cases M.glob.symm.trans e1
   have z:=e4 m s hs
   rw [hl] at z
   refine method_fn (s:=⟨h,g,d,tk,os⟩) (X.X.keeps H.base) I M.cls.get M.cls.SF M.find M.typ (by unfold shadowIn;dsimp only;rw [hk,show m' (nm s)=none from z];rfl) ?_
   refine q (.ref fm, [.ref b.a]) λ{μ2 σ2 h2 as vs K} e S H2 ra=>⟨rx X H2 M.keep,mw hC R.c M.fa H2 (.cons (show VR G μ2 (.ref r) (.ref b.a) from ⟨b,iR S.pre hb,rfl⟩) ra) ?_⟩
   unfold wM at e
   rw [hf] at e
   exact e
 |none=>
  have un: ∀{as σ2 K},wM C σ o m as σ2 K->cM σ o=cM σ2 o/\wV (d7 o m as σ2) K:=λe=>by unfold wM at e;rw [hf] at e;exact e
  obtain ⟨i,hi⟩:=wL (un e0).2
  rw [←(un e0).1] at hi
  refine DY H hs ro hi (q (.builtin i, [ov]) λ{μ2 σ2 h2 as vs K} e S H2 ra=>⟨dG, ?_⟩)
  obtain ⟨j,hj,z⟩:=zQ (A:=A) X R H2 (ro.mono S.pre) ra (un e).2
  rw [←(un e).1,hi] at hj
  exact Option.some.inj hj▸z.d
end
structure Cx (G:Gl) (A:Around) (n:Nat) (C:aD):Prop where
 K:dd G
 T:o6 G
 GF:tC G
 call:iJ G n C
 ex:mK C
 R:cy A n
 rz:nsIn G.K mainGlobals "range"=some none/\nsIn G.K mainGlobals "zip"=some none
theorem A4 {G:Gl} (K:dd G) (GF:tC G) {x:Nat} (h:xE x=true): ∃v,globV G.K x=some v:=by
 rcases Bool.or_eq_true_iff.mp h with h|h
 ·rcases Bool.or_eq_true_iff.mp h with h|h
  ·rcases Bool.or_eq_true_iff.mp h with h|h
   ·rcases Bool.or_eq_true_iff.mp h with h|h
    ·exact let ⟨f,hf⟩:=Option.isSome_iff_exists.mp h;let ⟨a,e,_⟩:=GF.fn x f hf;⟨_,e⟩
    ·exact let ⟨f,hf⟩:=Option.isSome_iff_exists.mp h;let ⟨ca,fI,e⟩:=GF.cl x f hf;⟨_,e.glob⟩
   ·exact let ⟨v,hv⟩:=Option.isSome_iff_exists.mp h;let ⟨u,e,_⟩:=K.con x v hv;⟨_,e⟩
  ·exact let ⟨l,hl⟩:=Option.isSome_iff_exists.mp h;let ⟨a,vs,e,_⟩:=K.tup x l hl;⟨_,e⟩
 ·have all: ∀x∈HT,(mi x).isSome=true:=by decide+kernel
  exact let ⟨v,hv⟩:=Option.isSome_iff_exists.mp (all x (List.contains_iff_mem.mp h));⟨v,K.blt x v hv⟩
noncomputable def nc (ie:IE):Bool:=match ie with
 | .comp .. =>false
 |_=>true
noncomputable abbrev OX (sc:aO) (e:Expr) (ie:IE):Prop:=
 ∀{G:Gl} {A:Around} {n:Nat} {C:aD},Cx G A n C-> ∀{env:Env} {ρ:Loc} {σ:a0} {μ:Mu} {h:Heap} {K:KV},ai G μ σ h->aE G μ sc ρ env h->wE C ie ρ σ K->iZ G A (eval e env) μ h K
noncomputable abbrev UJ (sc:aO) (e:Expr) (ie:IE):Prop:=
 ∀{G:Gl} {A:Around} {n:Nat} {C:aD},Cx G A n C-> ∀{env:Env} {ρ:Loc} {σ:a0} {μ:Mu} {h:Heap} {K:KV},ai G μ σ h->aE G μ sc ρ env h->CG K->wE C ie ρ σ K->AP G A (isTrue e env (eval e env)) μ h K
noncomputable abbrev IA (sc:aO) (e:Expr) (ie:IE):Prop:=gj ie=true->
 ∀{G:Gl} {A:Around} {n:Nat} {C:aD},Cx G A n C-> ∀{env:Env} {ρ:Loc} {σ:a0} {μ:Mu} {h:Heap} {K:KV},ai G μ σ h->aE G μ sc ρ env h->wE C ie ρ σ K->o5 G A (eval e env) μ h λV=>K V σ
structure aL (sc:aO) (e:Expr) (ie:IE):Prop where
 ev:OX sc e ie
 ts:UJ sc e ie
 pu:IA sc e ie
 st: ∀env r,starEach (e::r) env=(false,eval e env)::starEach r env
 fo: ∀env x,foldedSetIterable e env x=pure x
 sw:nc ie=true-> ∀t l env,swapsWith e t l env=pure false
section
variable {G:Gl} {A:Around} {μ μ':Mu} {h h':Heap} {K:KV} {g:Array GenState} {d:Drawn} {os:OsState}
theorem KQ.after {Q:Value->Shared->Prop} (q:KQ G K μ h g d os Q) (S:Step aS μ h μ' h'):KQ G K μ' h' g d os Q:=λv V μ2 h2 tk σ k r S2 H2=>q v V μ2 h2 tk σ k r (S.andThen S2) H2
theorem KT.after {Q:Bool->Shared->Prop} (q:KT G K μ h g d os Q) (S:Step aS μ h μ' h'):KT G K μ' h' g d os Q:=λb μ2 h2 tk σ k S2 H2=>q b μ2 h2 tk σ k (S.andThen S2) H2
theorem KT.val {Q:Bool->Shared->Prop} (q:KT G K μ h g d os Q) (hb:CG K):KQ G K μ h g d os λv s=>ag (model G.prog G.w) A (truthy v) Q s:=λv V μ2 h2 tk σ k r S2 H2=>by
 obtain ⟨b,rfl⟩:=hb V σ k
 cases r
 exact ao (wpAny_truthy_bool (q b μ2 h2 tk σ k S2 H2))
end
theorem cn {sc:aO} {e:Expr} {ie:IE} (ev:OX sc e ie) (he: ∀env,isTrue e env (eval e env)=(do let v←eval e env;standAt e.pos;holding [v] (truthy v))) (pu:IA sc e ie)
  (st: ∀env r,starEach (e::r) env=(false,eval e env)::starEach r env) (fo: ∀env x,foldedSetIterable e env x=pure x) (sw:nc ie=true-> ∀t l env,swapsWith e t l env=pure false):aL sc e ie:=
 ⟨ev,λX=>λH L hb e g d tk os Q q=>pN (he _) (ev X H L e g d tk os _ (q.val hb)),pu,st,fo,sw⟩
theorem d6 {sc:aO} {e:Expr} {ie:IE} (h:gj ie=false):IA sc e ie:=λz=>nomatch h.symm.trans z
section
variable {sc:aO} {pos:Pos}
theorem iU {c:Const} {k:Nat} {V:AV} (hc: ∀{G:Gl} {A:Around} {env:Env} {μ:Mu} {s:Shared} {Q E:Value->Shared->Prop},(∀v tk,VR G μ V v->Q v {s with toks:=tk})->wpAny (model G.prog G.w) A (eval (.Constant c k pos) env) Q E s):aL sc (.Constant c k pos) (.lit V):=
 cn (λX=>λH L e g d tk os Q q=>ao (hc λv aH r=>q.same H e r)) (λ_=>rfl) (d6 rfl) (λ_ _=>rfl) (λ_ _=>rfl) λ_ _ _ _=>rfl
theorem yl {x:Str} {c:Nat} (hc:aM x=some c):(x==("__debug__":Str))=false/\(x==("__classdict__":Str))=false:=by
 refine ⟨beq_eq_false_iff_ne.mpr λz=> ?_,beq_eq_false_iff_ne.mpr λz=> ?_⟩
 ·subst z;exact nomatch (show aM ("__debug__":Str)=none by decide+kernel).symm.trans hc
 ·subst z;exact nomatch (show aM ("__classdict__":Str)=none by decide+kernel).symm.trans hc
theorem xM {x:Str} {c:Nat} (hc:aM x=some c) {G:Gl} {A:Around} {C:aD} {env:Env} {ρ:Loc} {σ:a0} {μ:Mu} {h:Heap} {K:KV} (L:aE G μ sc ρ env h) (e:wE C (.var c) ρ σ K):o5 G A (eval (.Name x pos) env) μ h λV=>K V σ:=by
 intro g d tk os Q q
 obtain ⟨n1,n2⟩:=yl hc
 obtain ⟨s,hs,rfl⟩:=bp hc
 obtain ⟨v,hv,k⟩:=wq e
 obtain ⟨m,hn,sx⟩:=L.val
 refine ao (wpAny_Name ?_ n1)
 cases sx c v hv with
 |loc s' u cv hl hu hr=>cases hs.symm.trans cv;exact wpAny_loadName_local L.ok.kind (L.ok.loc _ hl) hn hu (q _ _ _ k hr)
 |cell s' a u cv hl ha hi hr=>
  cases hs.symm.trans cv
  exact (L.ok.cel _ hl).elim (λz=>wpAny_loadName_cell L.ok.kind z ha hi (q _ _ _ k hr)) λz=>wpAny_loadName_free L.ok.kind z ha hi (q _ _ _ k hr) n2
theorem DI {x:Str} {c:Nat} (hc:aM x=some c):aL sc (.Name x pos) (.var c):=
 cn (λX=>λH L e=>(xM hc L e).ok H) (λ_=>rfl) (λ_=>λX=>λH L e=>xM hc L e) (λ_ _=>rfl) (λ_ _=>rfl) λ_ _ _ _=>rfl
theorem zA {x:Str} {c:Nat} (hc:aM x=some c) (hg:jz sc x=true):aL sc (.Name x pos) (.glob c):=
 cn (λX=>λH L e g d tk os Q q=>by
  obtain ⟨hG,k⟩:=tY e
  obtain ⟨v,hv⟩:=A4 X.K X.GF hG
  obtain ⟨s,hs,hn⟩:=bp hc
  exact ao (Dy X.K X.T H L.ok hs hn (beq_iff_eq.mp hg) (yl hc).1 hv (q.same H k (E2 X.K hv)))) (λ_=>rfl) (d6 rfl) (λ_ _=>rfl) (λ_ _=>rfl) λ_ _ _ _=>rfl
variable {l r x y t a b:Expr} {il ir ix iy it ia ib:IE}
theorem DT {op:Operator} {o:BOp} (ho:A5 op=some o) (hl:aL sc l il) (hr:aL sc r ir):aL sc (.BinOp l op r pos) (.bin o il ir):=
 cn (λX=>λH L e g d tk os Q q=>IM (hl.ev X H L e g d tk os _ λva Va μ1 h1 aK σ1 k1 r1 S1 H1=>hr.ev X H1 (L.step S1) k1 g d aK os _ λvb Vb μ2 h2 b9 σ2 k2 r2 S2 H2=>
  (Fq ho H2 (r1.mono S2.pre) r2 (tJ k2)).d g d b9 os _ ((q.after S1).after S2))) (λ_=>rfl) (d6 rfl) (λ_ _=>rfl) (λ_ _=>rfl) λ_ _ _ _=>rfl
theorem EJ {op:CmpOp} {o:COp} (ho:AZ op=some o) (hm:behindInMarks op r=false) (hl:aL sc l il) (hr:aL sc r ir):aL sc (.Compare l [op] [r] pos) (.cmp o il ir):=
 have key: ∀{G:Gl} {A:Around} {n:Nat} {C:aD},Cx G A n C-> ∀{env:Env} {ρ:Loc} {σ:a0} {μ:Mu} {h:Heap} {K:KV},ai G μ σ h->aE G μ sc ρ env h->wE C (.cmp o il ir) ρ σ K-> ∀{g d tk os Q},KQ G K μ h g d os Q->
   ag (model G.prog G.w) A (eval l env) (λa s₁=>ag (model G.prog G.w) A (eval r env) (λb s₂=>ag (model G.prog G.w) A (compareOp op a b) Q s₂) s₁) ⟨h,g,d,tk,os⟩:=
  λX=>λH L e=>λq=>hl.ev X H L e _ _ _ _ _ λva Va μ1 h1 aK σ1 k1 r1 S1 H1=>hr.ev X H1 (L.step S1) k1 _ _ _ _ _ λvb Vb μ2 h2 b9 σ2 k2 r2 S2 H2=>
   (GU X.K X.R ho H2 (r1.mono S2.pre) r2 k2).d _ _ _ _ _ ((q.after S1).after S2)
 ⟨λX=>λH L e g d tk os Q q=>AY hm (key X H L e q),λX=>λH L hb e g d tk os Q q=>tj hm (key X H L e (q.val hb)),d6 rfl,λ_ _=>rfl,λ_ _=>rfl,λ_ _ _ _=>rfl⟩
theorem Ey (hx:aL sc x ix):aL sc (.UnaryOp .Not x pos) (.not ix):=
 ⟨λX=>λH L e g d tk os Q q=>QI (hx.ev X H L e g d tk os _ λv V μ1 h1 aK σ1 k1 r1 S1 H1=>by
  obtain ⟨b,rfl⟩:=cH k1
  cases r1
  refine ao (not_of (wpAny_truthy_bool ?_))
  cases b with
  |true=>exact (q.after S1).same H1 k1 rfl
  |false=>exact (q.after S1).same H1 k1 rfl),
 λX=>λH L hb e g d tk os Q q=>sX (hx.ts X H L (λ_ _ z=>cH z) e g d tk os _ λb μ1 h1 aK σ1 k1 S1 H1=>by
  cases b with
  |true=>exact q _ μ1 h1 aK σ1 k1 S1 H1
  |false=>exact q _ μ1 h1 aK σ1 k1 S1 H1),d6 rfl,λ_ _=>rfl,λ_ _=>rfl,λ_ _ _ _=>rfl⟩
theorem EI (ht:aL sc t it) (ha:aL sc a ia) (hb:aL sc b ib):aL sc (.IfExp t a b pos) (.ite it ia ib):=
 ⟨λX=>λH L e g d tk os Q q=>HF (ht.ts X H L (λ_ _ z=>cH z) e g d tk os _ λc μ1 h1 aK σ1 k1 S1 H1=>by
  cases c with
  |true=>exact ha.ev X H1 (L.step S1) k1 g d aK os _ (q.after S1)
  |false=>exact hb.ev X H1 (L.step S1) k1 g d aK os _ (q.after S1)),
 λX=>λH L hB e g d tk os Q q=>pG (ht.ts X H L (λ_ _ z=>cH z) e g d tk os _ λc μ1 h1 aK σ1 k1 S1 H1=>by
  cases c with
  |true=>exact ha.ts X H1 (L.step S1) hB k1 g d aK os _ (q.after S1)
  |false=>exact hb.ts X H1 (L.step S1) hB k1 g d aK os _ (q.after S1)),d6 rfl,λ_ _=>rfl,λ_ _=>rfl,λ_ _ _ _=>rfl⟩
structure iF (sc:aO) (o:BoolOp) (vs:List Expr) (ie:IE):Prop where
 ev: ∀{G:Gl} {A:Around} {n:Nat} {C:aD},Cx G A n C-> ∀{env:Env} {ρ:Loc} {σ:a0} {μ:Mu} {h:Heap} {K:KV} {pos:Pos},ai G μ σ h->aE G μ sc ρ env h->wE C ie ρ σ K->iZ G A (boolOp pos o (evalEach vs env)) μ h K
 ts: ∀{G:Gl} {A:Around} {n:Nat} {C:aD},Cx G A n C-> ∀{env:Env} {ρ:Loc} {σ:a0} {μ:Mu} {h:Heap} {K:KV},ai G μ σ h->aE G μ sc ρ env h->CG K->wE C ie ρ σ K->AP G A (allTrue o vs env) μ h K
variable {vs:List Expr} {o:BoolOp}
theorem AU (hx:aL sc x ix):iF sc o [x] ix:=
 ⟨λX=>λH L e g d tk os Q q=>t9 (hx.ev X H L e g d tk os Q q),λX=>λH L hb e g d tk os Q q=>by
  cases o with
  |And=>exact kI (hx.ts X H L hb e g d tk os _ λb μ1 h1 aK σ1 k1 S1 H1=>by
    cases b with
    |true=>exact kB (q _ μ1 h1 aK σ1 k1 S1 H1)
    |false=>exact q _ μ1 h1 aK σ1 k1 S1 H1)
  |Or=>exact lJ (hx.ts X H L hb e g d tk os _ λb μ1 h1 aK σ1 k1 S1 H1=>by
    cases b with
    |true=>exact q _ μ1 h1 aK σ1 k1 S1 H1
    |false=>exact kB (q _ μ1 h1 aK σ1 k1 S1 H1))⟩
theorem AA (hx:aL sc x ix) (hy:iF sc .And (y::vs) iy):iF sc .And (x::y::vs) (.and ix iy):=
 ⟨λX=>λH L e g d tk os Q q=>tv (hx.ev X H L e g d tk os _ λv V μ1 h1 aK σ1 k1 r1 S1 H1=>by
  obtain ⟨b,rfl⟩:=cH k1
  cases r1
  refine ao (wpAny_truthy_bool ?_)
  cases b with
  |true=>exact hy.ev X H1 (L.step S1) k1 g d aK os _ (q.after S1)
  |false=>exact (q.after S1).same H1 k1 rfl),
 λX=>λH L hb e g d tk os Q q=>kI (hx.ts X H L (λ_ _ z=>cH z) e g d tk os _ λb μ1 h1 aK σ1 k1 S1 H1=>by
  cases b with
  |true=>exact hy.ts X H1 (L.step S1) hb k1 g d aK os _ (q.after S1)
  |false=>exact q _ μ1 h1 aK σ1 k1 S1 H1)⟩
theorem DD (hx:aL sc x ix) (hy:iF sc .Or (y::vs) iy):iF sc .Or (x::y::vs) (.or ix iy):=
 ⟨λX=>λH L e g d tk os Q q=>vT (hx.ev X H L e g d tk os _ λv V μ1 h1 aK σ1 k1 r1 S1 H1=>by
  obtain ⟨b,rfl⟩:=cH k1
  cases r1
  refine ao (wpAny_truthy_bool ?_)
  cases b with
  |true=>exact (q.after S1).same H1 k1 rfl
  |false=>exact hy.ev X H1 (L.step S1) k1 g d aK os _ (q.after S1)),
 λX=>λH L hb e g d tk os Q q=>lJ (hx.ts X H L (λ_ _ z=>cH z) e g d tk os _ λb μ1 h1 aK σ1 k1 S1 H1=>by
  cases b with
  |true=>exact q _ μ1 h1 aK σ1 k1 S1 H1
  |false=>exact hy.ts X H1 (L.step S1) hb k1 g d aK os _ (q.after S1))⟩
theorem AN (hp:gj ix=false) (hv:iF sc o vs ix):aL sc (.BoolOp o vs pos) ix:=
 ⟨λX=>λH L e g d tk os Q q=>bD (arm_eval_BoolOp ..) (hv.ev X H L e g d tk os Q q),λX=>λH L hb e g d tk os Q q=>qw (hv.ts X H L hb e g d tk os Q q),d6 hp,λ_ _=>rfl,λ_ _=>rfl,λ_ _ _ _=>rfl⟩
end
theorem jr {v:Expr} (h:kq v=true) (attr:Str) (env:Env) (whole:Sem Value):attributeBase v attr env whole=whole:=by
 cases v<;>first|rfl|exact nomatch h
section
variable {sc:aO} {pos:Pos} {v i:Expr} {iv ii:IE}
theorem zw {x:Str} {c:Nat} (hc:aM x=some c) (hp:kq v=true) (hv:aL sc v iv):aL sc (.Attribute v x pos) (.attr iv c):=by
 obtain ⟨s,hs,rfl⟩:=bp hc
 exact cn (λX=>λH L e g d tk os Q q=>nj (jr hp _ _ _) (hv.ev X H L e g d tk os _ λva Va μ1 h1 aK σ1 k1 r1 S1 H1=>
   ((wQ X.K hs H1 r1 k1).ok H1).d g d aK os _ λv V μ2 h2 b9 σ2 k2 r2 S2 H2=>ao (wpAny_letTemporaryGo (q.after S1 v V μ2 h2 b9 σ2 k2 r2 S2 H2)))) (λ_=>rfl)
  (λJF=>λX=>λH L e g d tk os Q q=>nj (jr hp _ _ _) (hv.pu JF X H L e g d tk os _ λva Va aK k1 r1=>
   (wQ X.K hs H r1 k1).d g d aK os _ λv V b9 k2 r2=>ao (wpAny_letTemporaryGo (q v V b9 k2 r2)))) (λ_ _=>rfl) (λ_ _=>rfl) λ_ _ _ _=>rfl
theorem En (hv:aL sc v iv) (hi:aL sc i ii):aL sc (.Subscript v i pos) (.idx iv ii):=
 cn (λX=>λH L e g d tk os Q q=>gk (hv.ev X H L e g d tk os _ λva Va μ1 h1 aK σ1 k1 r1 S1 H1=>hi.ev X H1 (L.step S1) k1 g d aK os _ λvb Vb μ2 h2 b9 σ2 k2 r2 S2 H2=>
   ((BW X.K X.R H2 (r1.mono S2.pre) r2 k2).ok H2).d g d b9 os _ ((q.after S1).after S2))) (λ_=>rfl)
  (λhp=>λX=>λH L e g d tk os Q q=>gk (hv.pu (Bool.and_eq_true_iff.mp hp).1 X H L e g d tk os _ λva Va aK k1 r1=>hi.pu (Bool.and_eq_true_iff.mp hp).2 X H L k1 g d aK os _ λvb Vb b9 k2 r2=>
   (BW X.K X.R H r1 r2 k2).d g d b9 os _ q)) (λ_ _=>rfl) (λ_ _=>rfl) λ_ _ _ _=>rfl
noncomputable def gR (x:Option Expr) (lo:Option Int):Prop:= ∀{prog:Program} {w:World} {A:Around} {env:Env} {s:Shared} {Q:Value->Shared->Prop} {E:Value->Shared->Prop},(∀v aH,IsPart v lo->Q v {s with toks:=aH})->wpAny (model prog w) A (evalPart x env) Q E s
theorem fE:gR none none:=λq=>wpAny_pure (q .none _ .none)
theorem jB {j:Int} {k:Nat} {p:Pos} (h:mP j=true):gR (some (.Constant (.int j) k p)) (some (j.toNat:Nat)):=λq=>by
 rw [evalPart_some]
 refine wpAny_Constant_int (q _ _ ?_)
 rw [Int.toNat_of_nonneg (of_decide_eq_true h).1]
 exact .int _ _
theorem Ay {p1 p2:Pos} {k:Nat}:gR (some (.UnaryOp .USub (.Constant (.int 1) k p1) p2)) (some (-1)):=by
 intro prog w A env s Q E q
 rw [evalPart_some]
 show wpAny _ _ (do let v←eval (.Constant (.int 1) k p1) env;standAt p2;holding [v] (unaryOp .USub v)) Q E s
 refine wpAny_bind (wpAny_Constant_int (wpAny_bind (wpAny_standAt (wpAny_holding (neg_int ?_)))))
 exact q _ _ (.int (-1) _)
theorem nh {G:Gl} {A:Around} {env:Env} {μ:Mu} {K:KV} {lo hi st:Option Expr} {bN dR st':Option Int} {p:Pos} (pl:gR lo bN) (pu:gR hi dR) (ps:gR st st') (h0:st'≠some 0)
  {h:Heap} {g:Array GenState} {d:Drawn} {tk:Nat} {os:OsState} {Q:Value->Shared->Prop} {va:Value} (r: ∀vl vu vs,IsPart vs st'->BU G μ h K va vl vu vs bN dR st') (q:KQ G K μ h g d os Q):
  ag (model G.prog G.w) A (eval (.Slice lo hi st p) env) (λi s2=>ag (model G.prog G.w) A (subscriptTail v (.Slice lo hi st p) va i) Q s2) ⟨h,g,d,tk,os⟩:=by
 refine ao (wpAny_Slice (pl λvl aK p1=>pu λvu b9 p2=>ps λvs iu p3=> ?_))
 obtain ⟨l,items,rfl,hl,hz,hq⟩:=r vl vu vs p3
 obtain ⟨ops,hs⟩:=dW (.Slice lo hi st p) (.ref l) (.ref h.objs.size)
 have ui:(h.push {cls:= .type "slice",data:= .fields #[vl,vu,vs]}).IsList l items:=hl.push _
 refine ao (tail_any (s:=⟨h.push {cls:= .type "slice",data:= .fields #[vl,vu,vs]},g,d,iu,os⟩) ui.typeIs slot_list_getitem.lookup ?_ hs)
 refine wpAny_getItem_list_slice (s:=⟨h.push {cls:= .type "slice",data:= .fields #[vl,vu,vs]},g,d,iu,os⟩) ui (Heap.IsSliceOf.new ..) p1 p2 p3 h0 ?_ hz
 show Q (.ref (h.push _).objs.size) _
 rw [Heap.size_push]
 exact hq g d iu os Q q
theorem qI {lo hi:Option Expr} {p:Pos} {l:Nat} {u:Option Nat} {bN:Option Int} (pl:gR lo bN) (pu:gR hi (u.map λn=>((n:Nat):Int))) (el:bN=some (l:Int)∨(bN=none/\l=0)) (hv:aL sc v iv):aL sc (.Subscript v (.Slice lo hi none p) pos) (.sl iv l u):=
 cn (λX=>λH L e g d tk os Q q=>gk (hv.ev X H L e g d tk os _ λva Va μ1 h1 aK σ1 k1 r1 S1 H1=>nh pl pu fE (λz=>nomatch z) (λvl vu vs p3=>by cases p3;exact Oa X.K H1 r1 k1 el rfl) (q.after S1))) (λ_=>rfl) (d6 rfl) (λ_ _=>rfl) (λ_ _=>rfl) λ_ _ _ _=>rfl
theorem EY {k:Nat} {p1 p2 p:Pos} (hv:aL sc v iv):aL sc (.Subscript v (.Slice none none (some (.UnaryOp .USub (.Constant (.int 1) k p1) p2)) p) pos) (.rev iv):=
 cn (λX=>λH L e g d tk os Q q=>gk (hv.ev X H L e g d tk os _ λva Va μ1 h1 aK σ1 k1 r1 S1 H1=>nh fE fE Ay (by decide) (λvl vu vs p3=>Ih H1 r1 k1) (q.after S1))) (λ_=>rfl) (d6 rfl) (λ_ _=>rfl) (λ_ _=>rfl) λ_ _ _ _=>rfl
noncomputable abbrev de (sc:aO) (es:List Expr) (ies:List IE):Prop:=ae (aL sc) es ies
noncomputable def KL (G:Gl) (K:List AV->a0->Prop) (μ:Mu) (h:Heap) (g:Array GenState) (d:Drawn) (os:OsState) (Q:List Value->Shared->Prop):Prop:=
 ∀vs Vs μ' h' aH σ',K Vs σ'->ae (VR G μ') Vs vs->Step aS μ h μ' h'->ai G μ' σ' h'->Q vs ⟨h',g,d,aH,os⟩
theorem gq {es:List Expr} {ies:List IE} (S:de sc es ies) {G:Gl} {A:Around} {n:Nat} {C:aD} (X:Cx G A n C) {env:Env} {g:Array GenState} {d:Drawn} {os:OsState}: ∀{ρ:Loc} {σ:a0} {μ:Mu} {h:Heap} {K:List AV->a0->Prop} {Q:List Value->Shared->Prop} {tk:Nat},ai G μ σ h->aE G μ sc ρ env h->wEs C ies ρ σ K->
  KL G K μ h g d os Q->ag (model G.prog G.w) A (spliced (backTo pos (starEach es env))) Q ⟨h,g,d,tk,os⟩:=by
 induction S with
 |nil=>exact λH L e q=>qG (q [] [] _ _ _ _ e .nil (.refl ..) H)
 |cons x _ ih=>exact λH L e q=>pD (x.st _ _) (x.ev X H L e _ _ _ _ _ λva Va μ1 h1 aK σ1 k1 r1 S1 H1=>ih H1 (L.step S1) k1 λws Ws μ2 h2 b9 σ2 k2 r2 S2 H2=>q _ _ μ2 h2 b9 σ2 k2 (.cons (r1.mono S2.pre) r2) (S1.andThen S2) H2)
theorem Ae {es:List Expr} {ies:List IE} (S:de sc es ies):aL sc (.List es pos) (.list ies):=
 cn (λX=>λH L e g d tk os Q q=>KX (gq S X H L e λws vs μ1 h1 aK σ1 k1 r1 S1 H1=>by
  obtain ⟨hc,k⟩:=qV k1
  refine ao (wpAny_newObj_type (s:=⟨h1,g,d,aK,os⟩) ((q.after S1).alloc H1 rfl k ⟨_,⟨_,Heap.get?_push_size _ rfl⟩,r1.imp λ_ _ z=>z.mono ⟨_,rfl⟩⟩) ?_)
  have z:=bj (Nat.le_of_ble_eq_true hc)
  rw [r1.length] at z
  exact z)) (λ_=>rfl) (d6 rfl) (λ_ _=>rfl) (λ_ _=>rfl) λ_ _ _ _=>rfl
theorem ES {es:List Expr} {ies:List IE} {k:Nat} (S:de sc es ies):aL sc (.Tuple es k pos) (.tup ies):=
 cn (λX=>λH L e g d tk os Q q=>Fy (gq S X H L e λws vs μ1 h1 aK σ1 k1 r1 S1 H1=>by
  obtain ⟨hc,k⟩:=qV k1
  refine ao (wpAny_newObj_type (s:=⟨h1,g,d,aK,os⟩) ((q.after S1).alloc H1 rfl k ⟨ws.toArray,⟨_,Heap.get?_push_size _ rfl,rfl,_,rfl⟩,r1.imp λ_ _ z=>z.mono ⟨_,rfl⟩⟩) ?_)
  have z:=bj (Nat.le_of_ble_eq_true hc)
  rw [r1.length] at z
  exact z)) (λ_=>rfl) (d6 rfl) (λ_ _=>rfl) (λ_ _=>rfl) λ_ _ _ _=>rfl
end
inductive uY (k:Option Expr) (c:Nat):Prop
 |mk (s:Str) (p1:Nat) (p2:Pos) (e:k=some (.Constant (.str s) p1 p2)) (hc:aM s=some c)
noncomputable def KP (G:Gl) (K:List AV->a0->Prop) (cs:List Nat) (μ:Mu) (h:Heap) (g:Array GenState) (d:Drawn) (os:OsState) (Q:List (Value×Value)->Shared->Prop):Prop:=
 ∀vs bq Vs μ' h' aH σ',K Vs σ'->Carries (bR G.prog G.w) vs bq->ae (jC G μ') ((cs.map AV.str).zip Vs) bq->bq.map (·.1)=cs.map (λc=>(.inl (jJ c):FK))->Step aS μ h μ' h'->ai G μ' σ' h'->Q vs ⟨h',g,d,aH,os⟩
section
variable {sc:aO} {pos:Pos} {G:Gl} {A:Around} {n:Nat} {C:aD} {env:Env} {g:Array GenState} {d:Drawn} {os:OsState}
noncomputable def FJ (G:Gl) (A:Around) (C:aD) (sc:aO) (env:Env) (cs:List Nat) (ies:List IE) (pairs:List (Sem Value×Sem Value)):Prop:=
 ∀{ρ:Loc} {σ:a0} {μ:Mu} {h:Heap} {K:List AV->a0->Prop} {g:Array GenState} {d:Drawn} {os:OsState} {Q:List (Value×Value)->Shared->Prop} {tk:Nat},ai G μ σ h->aE G μ sc ρ env h->wEs C ies ρ σ K->KP G K cs μ h g d os Q->ag (model G.prog G.w) A (evalPairs pairs) Q ⟨h,g,d,tk,os⟩
theorem wW (X:Cx G A n C) {ks:List (Option Expr)} {cs:List Nat} (hk:ae uY ks cs): ∀{es:List Expr} {ies:List IE},de sc es ies->cs.length=es.length->
  ∃pairs:List (Sem Value×Sem Value),(evalEachOpt ks env).zip ((evalEach es env).map λv=>do let x←v;standAt pos;pure x)=pairs.map (λp=>(some p.1,p.2))/\pairs.length=cs.length/\FJ G A C sc env cs ies pairs:=by
 induction hk with
 |nil=>intro es ies S hl;cases S with
  |nil=>exact ⟨[],rfl,rfl,λH L e q=>ah (q [] [] [] _ _ _ _ e trivial .nil rfl (.refl ..) H)⟩
  |cons _ _=>exact nomatch hl
 | @cons k c r Wj hc _ ih=>intro es ies S hl;cases S with
  |nil=>exact nomatch hl
  | @cons x ix es ies hx S=>
   obtain ⟨s,p1,p2,rfl,hc⟩:=hc
   obtain ⟨pairs,h1,h2,h3⟩:=ih S (Nat.succ.inj hl)
   refine ⟨(eval (.Constant (.str s) p1 p2) env,do let v←eval x env;standAt pos;pure v)::pairs,congrArg (List.cons _) h1,congrArg Nat.succ h2,λ{ρ σ μ h K g d os Q tk} H L e q=> ?_⟩
   show ag _ _ (eval (.Constant (.str s) p1 p2) env>>=_) _ _
   obtain ⟨t,ht,rfl⟩:=bp hc
   refine a8 (ao (wpAny_Constant_str (a8 (aq (a8 (hx.ev X H L e g d _ os _ λva Va μ1 Wk aK σ1 k1 r1 S1 H1=>a8 (au (ah
    (a8 (aq (h3 H1 (L.step S1) k1 λws bq Vs μ2 JZ b9 σ2 k2 c1 c2 c3 S2 H2=>ah ?_)))))))))))
   exact q _ ((.inl (nm t),va)::bq) (Va::Vs) μ2 JZ b9 σ2 k2 ⟨by show (nm t==nm t)=true;exact beq_self_eq_true _,rfl,c1⟩ (.cons ⟨by show (aN[c]?).map _=_;rw [ht];rfl,r1.mono S2.pre⟩ c2) (by rw [List.map_cons,c3,List.map_cons,mT ht]) (S1.andThen S2) H2
theorem oY {h:Heap} {a:Addr} {bq:List (FK×Value)} (x:h.DictOf (bR G.prog G.w) a bq): ∃o,h.get? a=some o:=let ⟨o,_,_,e,_⟩:=x;⟨o,e⟩
theorem ED {cs:List Nat} (nd:cs.Nodup) (hs: ∀c∈cs,∃s,aN[c]?=some s):(cs.map λc=>(.inl (jJ c):FK)).Nodup:=by
 induction cs with
 |nil=>exact List.nodup_nil
 |cons c cs ih=>
  obtain ⟨n1,n2⟩:=List.nodup_cons.mp nd
  refine List.nodup_cons.mpr ⟨λhm=> ?_,ih n2 λx hx=>hs x (.tail _ hx)⟩
  obtain ⟨d,hd,e⟩:=List.mem_map.mp hm
  obtain ⟨s,h1⟩:=hs c (.head _)
  obtain ⟨t,h2⟩:=hs d (.tail _ hd)
  have z:=Sum.inl.inj e
  rw [mT h2,mT h1] at z
  exact n1 (iL h2 h1 z▸hd)
theorem AJ {ks:List (Option Expr)} {cs:List Nat} (a:ae uY ks cs): ∀c∈cs,∃s,aN[c]?=some s:=λc hc=>
 let ⟨_,k⟩:=Aj a c hc;let ⟨_,_,_,_,hc⟩:=k;let ⟨s,hs,_⟩:=bp hc;⟨s,hs⟩
theorem A3 {ks:List (Option Expr)} {cs:List Nat} {es:List Expr} {ies:List IE} (hk:ae uY ks cs) (hc:cs.length=es.length/\cs.length≤15/\cs.Nodup) (S:de sc es ies):aL sc (.Dict ks es pos) (.dict cs ies):=by
 refine cn ?_ (λ_=>rfl) (d6 rfl) (λ_ _=>rfl) (λ_ _=>rfl) λ_ _ _ _=>rfl
 intro G A n C X env ρ σ μ h K H L e g d tk os Q q
 obtain ⟨hlen,K2,VQ⟩:=hc
 obtain ⟨pairs,z1,z2,z3⟩:=wW (pos:=pos) (env:=env) X hk S hlen
 rw [arm_eval_Dict]
 refine a8 (au ?_)
 rw [z1]
 by_cases h0:pairs= []
 ·subst h0
  cases List.length_eq_zero_iff.mp z2.symm
  cases S with
  |cons _ _=>exact nomatch hlen
  |nil=>
   show ag _ _ (alloc _>>=_) _ _
   exact (a8 (ao (wpAny_alloc (ah (q.alloc H rfl e (.inl ⟨[],Heap.DictOf.new h, .nil⟩))))))
 ·rw [dictDisplay_pairs pairs h0 (by rw [z2];exact Nat.lt_of_le_of_lt K2 (by decide))]
  refine a8 ?_
  unfold subDict
  refine a8 (ao (wpAny_alloc (a8 (aq ?_))))
  rw [if_pos (z2▸Nat.le_trans K2 (by decide))]
  have D0:=Heap.DictOf.new h (knd:=bR G.prog G.w)
  have kp: ∀x o,h.get? x=some o->(h.push {cls:= .type "dict",data:= .dict #[]}).get? x=some o:=λx o e=>Heap.get?_push_of_some _ e
  have nD:h.get? h.objs.size=none:=Heap.get?_none_of_le (Nat.le_refl _)
  have outD: ¬bJ μ h.objs.size:=λi=>let ⟨o,e⟩:=H.live i;nomatch nD.symm.trans e
  refine a8 (z3 (H.grown kp) (L.grown kp) e λws bq Vs μ1 h1 aK σ1 k1 c1 c2 c3 S1 H1=> ?_)
  have D1:=DictOf.at' (λo e=>S1.keep _ o (λz=>z) outD e) D0
  obtain ⟨oD,eD⟩:=oY D0
  have ry: ¬bJ μ1 h.objs.size:=S1.fS eD outD
  have hl:bq.length≤15:=(List.length_map ..).symm.trans ((congrArg List.length c3).trans (List.length_map ..))▸K2
  refine aq (a8 (ao (wpAny_storeAll (knd:=bR G.prog G.w) ws bq [] ⟨h1,g,d,aK,os⟩ _ c1 D1 (by rw [sizeLine_eq];simp;exact RL hl) λh2 D2 VS=> ?_)))
  rw [merged_nil_of_nodup bq (c3▸ED VQ (AJ hk))] at D2
  obtain ⟨T2,H2⟩:=rm H1 ((Step.grown aS kp).andThen S1) VS nD ry (H.none_of nD)
  obtain ⟨o2,e2⟩:=oY D2
  exact ah (ah (ah (q _ _ _ _ _ _ k1 (iK H1 ⟨h.objs.size,h.objs.size⟩) ⟨T2.pre.trans ⟨_,rfl⟩,λx i=>(dT i).elim (T2.new x) λz=> .inr ((z.elim id id:x=h.objs.size)▸nD),T2.keep,T2.live⟩
   (H2.adopt (b:=⟨h.objs.size,h.objs.size⟩) (o:= .dict ((cs.map AV.str).zip Vs)) ry ry (H.none_of nD) (H.none_of nD) ⟨_,e2⟩ ⟨_,e2⟩ (.inl ⟨bq,D2,c2.imp λ_ _ z=>⟨z.1,z.2.mono ⟨_,rfl⟩⟩⟩)))))
end
section
variable {sc:aO} {pos p:Pos} {es:List Expr} {ies:List IE}
theorem B3 (S:de sc es ies) {env:Env}:starEach es env=es.map λe=>(false,eval e env):=by
 induction S with
 |nil=>rfl
 |cons x _ ih=>rw [x.st,ih];rfl
theorem mO (S:de sc es ies) {env:Env}: ∀x∈backTo pos (starEach es env),x.1=false:=λx hx=>by
 obtain ⟨y,hy,rfl⟩:=List.mem_map.mp hx
 rw [B3 S] at hy
 obtain ⟨e,_,rfl⟩:=List.mem_map.mp hy
 rfl
theorem fZ (S:de sc es ies) {env:Env}:(backTo pos (starEach es env)).any (·.1)=false:=List.any_eq_false.mpr λx hx=>Bool.eq_false_iff.mp (mO S x hx)
theorem xK (S:de sc es ies) {env:Env} {k:Nat} (hk:k<20):methodCallForm k (backTo pos (starEach es env)) []=true:=by
 unfold methodCallForm
 rw [List.all_eq_true.mpr λx hx=>(congrArg (!·) (mO S x hx):(!x.1)=true)]
 simp
 exact R6 hk
theorem Aa {id:Str} {ie:IE} (hf:aL sc (.Name id p) ie) (S:de sc es ies):aL sc (.Call (.Name id p) es [] pos) (.call ie ies):=
 cn (λX=>λH L e g d tk os Q q=>kL (hf.ev X H L e g d tk os _ λF FV μ1 h1 aK σ1 k1 r1 S1 H1=>gZ (fZ S) (gq S X H1 (L.step S1) k1 λws vs μ2 h2 b9 σ2 k2 r2 S2 H2=>
  have z:=Ar X.K X.GF X.call X.R (r1.mono S2.pre) H2 r2 k2
  ⟨z.keep,z.ev g d b9 os _ ((q.after S1).after S2)⟩))) (λ_=>rfl) (d6 rfl) (λ_ _=>rfl) (λ_ _=>rfl) λ_ _ _ _=>rfl
theorem As {o:Expr} {x:Str} {c:Nat} {io:IE} (hc:aM x=some c) (hp:kq o=true) (hl:p.endLine=pos.line) (hn:es.length<20) (ho:aL sc o io) (S:de sc es ies):aL sc (.Call (.Attribute o x p) es [] pos) (.bc io c ies):=by
 obtain ⟨s,hs,rfl⟩:=bp hc
 exact cn (λX=>λH L e g d tk os Q q=>wt (jr hp _ _ _) (xK S hn) hl (ho.ev X H L e g d tk os _ λva V μ1 h1 aK σ1 k1 r1 S1 H1=>
  let ⟨_,_,e0⟩:=eV X.ex ies k1
  ao (Ew X.K X.GF X.call X.R hs H1 r1 e0 λfx z=>gZ (fZ S) (gq S X H1 (L.step S1) k1 λws vs μ2 h2 b9 σ2 k2 r2 S2 H2=>
   have z:=z k2 S2 H2 r2
   ⟨z.keep,z.ev g d b9 os _ ((q.after S1).after S2)⟩)))) (λ_=>rfl) (d6 rfl) (λ_ _=>rfl) (λ_ _=>rfl) λ_ _ _ _=>rfl
structure j0 (sc:aO) (it:Expr) (k:SK) (ies:List IE):Prop where
 iter: ∀{G:Gl} {A:Around} {n:Nat} {C:aD},Cx G A n C-> ∀{env:Env} {ρ:Loc} {σ:a0} {μ:Mu} {h:Heap} {P:a0->cb->Prop},ai G μ σ h->aE G μ sc ρ env h->wEs C ies ρ σ (λvs σ1=>oB (fk k vs σ1) (P σ1))->Ci G A (eval it env) μ h λsrc σ1=>P σ1 src
 fo: ∀env x,foldedSetIterable it env x=pure x
theorem Hc {it:Expr} {ie:IE} (S:aL sc it ie):j0 sc it .of [ie]:=
 ⟨λX=>λH L e g d tk os Q q=>S.ev X H L e g d tk os _ λva V μ1 h1 aK σ1 k1 r1 S1 H1=>ao (DX X.K H1 r1 k1 λsrc I fp h2 b9 p z1 z2 z3=>
  q src I fp μ1 h2 b9 σ1 p (S1.andThen (.grown _ z3)) (H1.grown z3) z1 (bF.fresh H1 z2 z1.live) λx hx=>S1.none_of (z2 x hx)),S.fo⟩
theorem oP {G:Gl} {A:Around} {n:Nat} {C:aD} (X:Cx G A n C) {env:Env} {σ:a0} {μ:Mu} {h:Heap} (H:ai G μ σ h) (L:lu sc env) {x:Str} {v:Value} (hg:jz sc x=true) (hx:nsIn G.K mainGlobals x=some none) (hv:bootBuiltins x=some v) (hn:x≠"__name__")
  (hd:(x==("__debug__":Str))=false) {M:Model} {E:Value->Shared->Prop} {Q:Value->Shared->Prop} {g:Array GenState} {d:Drawn} {tk:Nat} {os:OsState} (q:Q v ⟨h,g,d,tk,os⟩):wpAny M A (eval (.Name x pos) env) Q E ⟨h,g,d,tk,os⟩:=by
 refine Name_function_global L.kind (L.glo _ (beq_iff_eq.mp hg)) ?_ hd
 obtain ⟨mg,uD,Ds⟩:=X.T.Pa H
 obtain ⟨mb,hb,JR⟩:=X.T.b
 exact loadGlobal_builtin (env:=env) (L.globals▸Ds) (mg_none_of X.K.X uD hx) (L.builtins▸hb.keeps H.base) ((JR _ hn).trans hv) q
theorem AX {G:Gl} {A:Around} {μ:Mu} {σ:a0} {h:Heap} {P:a0->cb->Prop} (hh:A.handled=none) (H:ai G μ σ h) {k:Int} {u:Tok} (hk:0≤k/\k≤4000) (e:P σ (.aj (upTo 0 k.toNat))) {g:Array GenState} {d:Drawn} {tk:Nat} {os:OsState} {Q:Value->Shared->Prop}
  (q:FW G (λsrc σ1=>P σ1 src) μ h g d os Q):ag (model G.prog G.w) A (call (.type "range") [.int k u]) (λv s1=>ag (model G.prog G.w) A (pyIter v) Q s1) ⟨h,g,d,tk,os⟩:=by
 refine ao (call_range_1 (s:=⟨h,g,d,tk,os⟩) ?_)
 have sj:Builtin.Range.rangeSize 0 k 1=((k.toNat:Nat):Int):=by
  rw [rangeSize_one]
  split<;>omega
 have K7:Builtin.Range.small 0 k 1=true:=by
  unfold Builtin.Range.small
  rw [sj]
  simp only [Builtin.Range.rangeFitsLong,Bool.and_eq_true,Bool.or_eq_true,decide_eq_true_eq,beq_iff_eq,show (1:Int)>0 by decide,if_true]
  exact Rk hk
 have JN:IsRange (h.push {cls:= .type "range",data:= .fields #[.int 0 tk, .int k u, .int 1 (tk+1)]}) h.objs.size 0 k 1 tk u (tk+1):=IsRange.new ..
 have kr: ∀x o,h.get? x=some o->(h.push {cls:= .type "range",data:= .fields #[.int 0 tk, .int k u, .int 1 (tk+1)]}).get? x=some o:=λx o e=>Heap.get?_push_of_some _ e
 generalize h.push {cls:= .type "range",data:= .fields #[.int 0 tk, .int k u, .int 1 (tk+1)]}=hr at*
 refine ao (wpAny_pyIter_range (s:=⟨hr,g,d,tk+1+1,os⟩) JN K7 ?_)
 have q':KI G (P σ) μ hr g d os Q:=λsrc I fp h2 b9 p z1 z2 z3=>q src I fp μ h2 b9 σ p (.grown _ λx o e=>z3 _ _ (kr x o e)) (H.grown λx o e=>z3 _ _ (kr x o e)) z1 (bF.fresh (H.grown kr) z2 z1.live) λx hx=>(Step.grown aS (μ:=μ) kr).none_of (z2 x hx)
 refine q'.one rfl e λz=> .rng k.toNat ?_
 show (hr.push _).get? hr.objs.size=some _
 rw [z,sj]
 simp
theorem src_range (hg:jz sc ("range":Str)=true) (S:de sc es ies):j0 sc (.Call (.Name ("range":Str) p) es [] pos) .range ies:=
 ⟨λX=>λH L e g d tk os Q q=>kL (ao (oP X H L.ok hg X.rz.1 (by decide+kernel) (by decide+kernel) (by decide+kernel)
  (gZ (fZ S) (gq S X H L e λws vs μ1 h1 aK σ1 k1 r1 S1 H1=>⟨eE,e1 (M:=λws=>ag _ _ (call (.type "range") ws) _ _) r1 k1 λa v r e=>eI r e λk u e=>
   let ⟨hk,e⟩:=bG e
   AX X.R.handled H1 hk e λsrc I fp μ2 h2 b9 σ2 p S2 H2 z1 z2 z3=>q src I fp μ2 h2 b9 σ2 p (S1.andThen S2) H2 z1 z2 λx hx=>S1.none_of (z3 x hx)⟩)))),λ_ _=>rfl⟩
theorem Hd {G:Gl} {A:Around} {μ:Mu} {σ:a0} {h:Heap} {P:a0->cb->Prop} (H:ai G μ σ h) {r r2:Nat} {b1 b2:bu} {Qc Qd:Array Value} (uf:μ[r]?=some b1) (pe:μ[r2]?=some b2) (l1:h.IsList b1.a Qc) (l2:h.IsList b2.a Qd) (e:P σ (.zip r r2)) {g:Array GenState} {d:Drawn} {tk:Nat} {os:OsState} {Q:Value->Shared->Prop}
  (q:FW G (λsrc σ1=>P σ1 src) μ h g d os Q):ag (model G.prog G.w) A (call (.type "zip") [.ref b1.a, .ref b2.a]) (λv s1=>ag (model G.prog G.w) A (pyIter v) Q s1) ⟨h,g,d,tk,os⟩:=by
 refine ao (call_zip_2 (s:=⟨h,g,d,tk,os⟩) l1 l2 λh2 z1 z2 z3 z4 z5 z6 z7=> ?_)
 have st:bI G μ (.zip r r2) 0 (h.objs.size+4) [h.objs.size+4,h.objs.size+2,h.objs.size+3,h.objs.size,h.objs.size+1] h2:=
  .zip (h.objs.size+2) (h.objs.size+3) h.objs.size (h.objs.size+1) b1 b2 (by simp) uf pe z1 z2 ⟨_,_,z3⟩ z4 z5
 have nw: ∀x∈ [h.objs.size+4,h.objs.size+2,h.objs.size+3,h.objs.size,h.objs.size+1],h.get? x=none:=λx hx=>Heap.get?_none_of_le (by
  have all: ∀k∈ [4,2,3,0,1],h.objs.size≤h.objs.size+k:=λk _=>Nat.le_add_right ..
  have hm:x∈ [4,2,3,0,1].map (h.objs.size+ ·):=hx
  obtain ⟨k,hk,rfl⟩:=List.mem_map.mp hm
  exact all k hk)
 exact ao (wpAny_pyIter_zip (s:=⟨h2,g,d,tk,os⟩) z1 (q _ _ _ μ h2 _ σ e (.grown _ z7) (H.grown z7) st (bF.fresh H nw st.live) nw))
theorem DU (hg:jz sc ("zip":Str)=true) (S:de sc es ies):j0 sc (.Call (.Name ("zip":Str) p) es [] pos) .zip ies:=
 ⟨λX=>λH L e g d tk os Q q=>kL (ao (oP X H L.ok hg X.rz.2 (by decide+kernel) (by decide+kernel) (by decide+kernel)
  (gZ (fZ S) (gq S X H L e λws vs μ1 h1 aK σ1 k1 r1 S1 H1=>⟨eE,e2 (M:=λws=>ag _ _ (call (.type "zip") ws) _ _) r1 k1 λa v b w ra rb e=>eR ra e λr b1 uf e=>eR rb e λr2 b2 pe e=>
   let ⟨xs,Qc,_,l1,_,_,e⟩:=eL H1 uf e
   let ⟨ys,Qd,_,l2,_,_,e⟩:=eL H1 pe e
   Hd H1 uf pe l1.isList l2.isList e λsrc I fp μ2 h2 b9 σ2 p S2 H2 z1 z2 z3=>q src I fp μ2 h2 b9 σ2 p (S1.andThen S2) H2 z1 z2 λx hx=>S1.none_of (z3 x hx)⟩)))),λ_ _=>rfl⟩
theorem tA {env:Env} {A:Around} {M:Model} {Q:Bool->Shared->Prop} {s:Shared} (q:Q false s):ag M A (forIn es false λc r=>if r=true then do let ok←isTrue c env (eval c env);pure (ForInStep.yield ok) else pure (ForInStep.yield r)) Q s:=by
 induction es with
 |nil=>rw [List.forIn_nil];exact ah q
 |cons x r ih=>rw [List.forIn_cons];exact a8 (ah ih)
theorem xS (S:de sc es ies) {G:Gl} {A:Around} {n:Nat} {C:aD} (X:Cx G A n C) {env:Env}: ∀{ρ:Loc} {σ:a0} {μ:Mu} {h:Heap} {K:Bool->a0->Prop},ai G μ σ h->aE G μ sc ρ env h->wK C ies ρ σ K->OL G A (mX es env) μ h K:=by
 induction S with
 |nil=>exact λH L e g d tk os Q q=>ah (a:=true) (q true _ _ _ _ e (.refl ..) H)
 |cons x _ ih=>
  intro ρ σ μ h K H L e g d tk os Q q
  unfold mX
  rw [List.forIn_cons]
  refine a8 (a8 (x.ts X H L (λ_ _ z=>cH z) e g d tk os _ λb μ1 h1 aK σ1 k1 S1 H1=>ah ?_))
  cases b with
  |true=>exact ih H1 (L.step S1) k1 g d aK os _ λb μ2 h2 b9 σ2 k2 S2 H2=>q b μ2 h2 b9 σ2 k2 (S1.andThen S2) H2
  |false=>exact tA (q false μ1 h1 aK σ1 k1 S1 H1)
variable {t elt it:Expr} {ifs:List Expr} {iifs:List IE} {inner:Scope} {nt:NT} {k:SK} {ie:IE}
structure zT (sc:aO) (t elt it:Expr) (ifs:List Expr) (inner:Scope) (nt:NT) (k:SK) (ies iifs:List IE) (ie:IE):Prop where
 T:cL inner.names t nt
 kind:inner.kind= .function
 C:gA sc inner.names
 src:j0 sc it k ies
 ifs:de inner.names ifs iifs
 elt:aL inner.names elt ie
theorem qT (S:zT sc t elt it ifs inner nt k ies iifs ie) {G:Gl} {A:Around} {n:Nat} {C:aD} (X:Cx G A n C) {env:Env} {ρ:Loc} {σ:a0} {μ:Mu} {h:Heap} {K:KV} (H:ai G μ σ h) (L:aE G μ sc ρ env h) (e:wE C (.comp ie nt k ies iifs (freeOf inner.names)) ρ σ K)
  {p:Pos} {use:Option (Value->Sem Unit)} {g:Array GenState} {d:Drawn} {tk:Nat} {os:OsState} {Q:Value->Shared->Prop}
  (q: ∀V acc a μ' h' aH m σ',K V σ'->VR G μ' V acc->Step aS μ h μ' h'->ai G μ' σ' h'->h'.Ns a m-> ¬bJ μ' a->G.h0.get? a=none->h.get? a=none->ig (model G.prog G.w) A use Q acc a ⟨h',g,d,aH,os⟩):
  ag (model G.prog G.w) A (comprehension (.ListComp elt [⟨t,it,ifs,0⟩] inner pos) inner env p (newList []) false (eval it env) use) Q ⟨h,g,d,tk,os⟩:=
 zj X.R.handled S.T S.kind S.C L (S.src.iter (P:=λσ1=>jW nt (wK C iifs) (wE C ie) (gj ie&&iifs.isEmpty) (only ρ (freeOf inner.names)) σ1 K) X H L e) (S.src.fo _) (λcl a=>⟨xS S.ifs X,S.elt.ev X,λhp=>by
  obtain ⟨h1,h2⟩:=Bool.and_eq_true_iff.mp hp
  obtain ⟨h3,h4⟩:ifs= []/\iifs= []:=by
   cases S.ifs with
   |nil=>exact ⟨rfl,rfl⟩
   |cons _ _=>exact nomatch h2
  subst h3 h4
  exact ⟨rfl,λe=>e,S.elt.pu h1 X⟩⟩) q
theorem rn (S:zT sc t elt it ifs inner nt k ies iifs ie):aL sc (.ListComp elt [⟨t,it,ifs,0⟩] inner pos) (.comp ie nt k ies iifs (freeOf inner.names)):=by
 refine cn ?_ (λ_=>rfl) (d6 rfl) (λ_ _=>rfl) (λ_ _=>rfl) λz=>nomatch z
 intro G A n C X env ρ σ μ h K H L e g d tk os Q q
 show ag _ A (comprehension (.ListComp elt [⟨t,it,ifs,0⟩] inner pos) inner env (firstIterPos [⟨t,it,ifs,0⟩] pos) (newList []) false (eval it env) none) Q _
 exact qT S X H L e λV acc a μ' h' aH m σ' k rv S H' hn out g0 na=>⟨m,hn,λbW hs=>let ⟨S2,H2⟩:=rm H' S hs na out g0;q acc V μ' bW aH σ' k rv S2 H2⟩
end
section
variable {α β γ:Type} {P:α->Prop} {P2:β->Prop} {R:γ->Prop}
noncomputable def m1 (x:Option {a//P a}) (k: ∀a,P a->{c//R c}):Option {c//R c}:=match x with
 |some a=>some (k a.1 a.2)
 |none=>none
noncomputable def m2 (x:Option {a//P a}) (y:Option {b//P2 b}) (k: ∀a b,P a->P2 b->{c//R c}):Option {c//R c}:=match x with
 |some a=>m1 y λb hb=>k a.1 b a.2 hb
 |none=>none
noncomputable def oS (o:Option α) (k: ∀a,o=some a->Option γ):Option γ:=match o,k with
 |some a,k=>k a rfl
 |none,_=>none
noncomputable def gd (c:Bool) (k:c=true->Option γ):Option γ:=match c,k with
 |true,k=>k rfl
 |false,_=>none
noncomputable def gF (c:Bool) (k:c=false->Option γ):Option γ:=match c,k with
 |false,k=>k rfl
 |true,_=>none
end
abbrev OE (sc:aO) (e:Expr):Type:=Option {ie:IE//aL sc e ie}
section
variable {sc:aO}
noncomputable def Hi (c:Const) (k:Nat) (p:Pos):OE sc (.Constant c k p):=match c with
 | .none=>some ⟨.lit .none,iU λq=>wpAny_Constant_none (q _ _ rfl)⟩
 | .bool b=>some ⟨.lit (.bool b),iU λq=>wpAny_Constant_bool (q _ _ rfl)⟩
 | .int i=>some ⟨.lit (.int i),iU λq=>wpAny_Constant_int (q _ _ (cm _ _))⟩
 | .str s=>oS (aM s) λc hc=>some ⟨.lit (.str c),iU λq=>wpAny_Constant_str (by obtain ⟨t,ht,rfl⟩:=bp hc;exact q _ _ ⟨t,_,ht,rfl⟩)⟩
 | .bytes b=>some ⟨.lit (.bytes (b.map UInt8.toNat)),iU λq=>PySem.W.Constant_bytes (q _ _ ⟨_,_,rfl,by rw [List.toList_toArray]⟩)⟩
 |_=>none
noncomputable def Ck (x:Str) (p:Pos):OE sc (.Name x p):=oS (aM x) λc hc=>match h:isVar sc x with
 |true=>some ⟨.var c,DI hc⟩
 |false=>gd (jz sc x) λhg=>some ⟨.glob c,zA hc hg⟩
noncomputable def Ug {v:Expr} {iv:IE} (hv:aL sc v iv) (lo hi st:Option Expr) (q p:Pos):OE sc (.Subscript v (.Slice lo hi st q) p):=match st with
 |none=>match lo with
  |none=>match hi with
   |some (.Constant (.int j) _ _)=>gd (mP j) λh=>some ⟨.sl iv 0 (some j.toNat),qI fE (jB h) (.inr ⟨rfl,rfl⟩) hv⟩
   |_=>none
  |some (.Constant (.int i) _ _)=>gd (mP i) λh0=>match hi with
   |none=>some ⟨.sl iv i.toNat none,qI (jB h0) fE (.inl rfl) hv⟩
   |some (.Constant (.int j) _ _)=>gd (mP j) λh=>some ⟨.sl iv i.toNat (some j.toNat),qI (jB h0) (jB h) (.inl rfl) hv⟩
   |_=>none
  |_=>none
 |some (.UnaryOp .USub (.Constant (.int i) _ _) _)=>match lo with
  |none=>match hi with
   |none=>if h:i=1 then some ⟨.rev iv,h▸EY hv⟩ else none
   |_=>none
  |_=>none
 |_=>none
noncomputable def sliceOf (i:Expr):Option {s:Option Expr×Option Expr×Option Expr×Pos//i= .Slice s.1 s.2.1 s.2.2.1 s.2.2.2}:=match i with
 | .Slice lo hi st q=>some ⟨(lo,hi,st,q),rfl⟩
 |_=>none
noncomputable def Rz {v i:Expr} (x:OE sc v) (y:OE sc i) (p:Pos):OE sc (.Subscript v i p):=match sliceOf i with
 |some s=>match x with
  |some a=>s.2▸Ug a.2 s.1.1 s.1.2.1 s.1.2.2.1 s.1.2.2.2 p
  |none=>none
 |none=>m2 x y λa b ha hb=>⟨.idx a b,En ha hb⟩
noncomputable def OK:(ks:List (Option Expr))->Option {cs:List Nat//ae uY ks cs}
 | []=>some ⟨[], .nil⟩
 |k::r=>match k with
  |some (.Constant (.str s) p1 p2)=>oS (aM s) λc hc=>m1 (OK r) λcs h=>⟨c::cs, .cons ⟨s,p1,p2,rfl,hc⟩ h⟩
  |_=>none
noncomputable def bO (o:BoolOp) {x y:Expr} {vs:List Expr} {a b:IE} (ha:aL sc x a) (hb:iF sc o (y::vs) b):{ie//iF sc o (x::y::vs) ie}:=match o with
 | .And=>⟨.and a b,AA ha hb⟩
 | .Or=>⟨.or a b,DD ha hb⟩
noncomputable abbrev qz (sc:aO) (it:Expr):Type:=Option {s:SK×List IE//j0 sc it s.1 s.2}
noncomputable def Qw {f:Str} {q p:Pos} {es:List Expr} (x:Option {ies//de sc es ies}):qz sc (.Call (.Name f q) es [] p):=
 if hr:f=("range":Str) then gd (jz sc ("range":Str)) λhg=>m1 x λies S=>⟨(.range,ies),hr▸src_range hg S⟩
 else if hz:f=("zip":Str) then gd (jz sc ("zip":Str)) λhg=>m1 x λies S=>⟨(.zip,ies),hz▸DU hg S⟩ else none
noncomputable def uU {it:Expr} (s:qz sc it) (x:OE sc it):qz sc it:=match s with
 |some s=>some s
 |none=>m1 x λa ha=>⟨(.of, [a]),Hc ha⟩
noncomputable def NM {t elt it:Expr} {ifs:List Expr} {inner:Scope} {p:Pos} (s:qz sc it) (i:Option {ies//de inner.names ifs ies}) (e:OE inner.names elt):OE sc (.ListComp elt [⟨t,it,ifs,0⟩] inner p):=
 gd (qu sc inner.names) λhc=>if hk:inner.kind= .function then match cN inner.names t with
  |some nt=>match s with
   |some s=>m2 i e λiifs ie hi he=>⟨.comp ie nt.1 s.1.1 s.1.2 iifs (freeOf inner.names),rn ⟨nt.2,hk,oH hc,s.2,hi,he⟩⟩
   |none=>none
  |none=>none else none
noncomputable def Qq {t a b:Expr} {p:Pos} (x:OE sc t) (y:OE sc a) (z:OE sc b):OE sc (.IfExp t a b p):=match x with
 |some i=>m2 y z λa b ha hb=>⟨.ite i.1 a b,EI i.2 ha hb⟩
 |none=>none
noncomputable def MM {ks:List (Option Expr)} {vs:List Expr} {p:Pos} (x:Option {ies//de sc vs ies}):OE sc (.Dict ks vs p):=match OK ks with
 |some cs=>if h:cs.1.length=vs.length/\cs.1.length≤15/\cs.1.Nodup then m1 x λies S=>⟨.dict cs.1 ies,A3 cs.2 h S⟩ else none
 |none=>none
noncomputable def Kq {o:Expr} {x:Str} {ap p:Pos} {es:List Expr} (a:OE sc o) (s:Option {ies//de sc es ies}):OE sc (.Call (.Attribute o x ap) es [] p):=
 oS (aM x) λc hc=>gd (kq o) λhp=>if hl:ap.endLine=p.line then if hn:es.length<20 then m2 a s λio ies ho hs=>⟨.bc io c ies,As hc hp hl hn ho hs⟩ else none else none
noncomputable def TL {o:BoolOp} {vs:List Expr} {p:Pos} (x:Option {ie//iF sc o vs ie}):OE sc (.BoolOp o vs p):=match x with
 |some b=>gF (gj b.1) λhp=>some ⟨b.1,AN hp b.2⟩
 |none=>none
theorem Ak {o:UnaryOp} {x:Expr} {p:Pos}:aL sc (.UnaryOp o x p) .fail:=⟨λX=>λH L e=>e.elim,λX=>λH L _ e=>e.elim,d6 rfl,λ_ _=>rfl,λ_ _=>rfl,λ_ _ _ _=>rfl⟩
noncomputable def RW (o:UnaryOp) {x:Expr} {p:Pos} (a:OE sc x):OE sc (.UnaryOp o x p):=match o with
 | .Not=>m1 a λa ha=>⟨.not a,Ey ha⟩
 |_=>some ⟨.fail,Ak⟩
end
mutual
noncomputable def cE:(e:Expr)->(sc:aO)->OE sc e
 | .Constant c k p,_=>Hi c k p
 | .Name x p,_=>Ck x p
 | .BinOp l o r p,sc=>oS (A5 o) λb hb=>m2 (cE l sc) (cE r sc) λx y hl hr=>⟨.bin b x y,DT hb hl hr⟩
 | .UnaryOp o x p,sc=>RW o (cE x sc)
 | .BoolOp o vs p,sc=>TL (cB o vs sc)
 | .Compare l [o] [r] p,sc=>oS (AZ o) λc hc=>gF (behindInMarks o r) λhm=>m2 (cE l sc) (cE r sc) λx y hl hr=>⟨.cmp c x y,EJ hc hm hl hr⟩
 | .IfExp t a b p,sc=>Qq (cE t sc) (cE a sc) (cE b sc)
 | .Attribute v x p,sc=>oS (aM x) λc hc=>gd (kq v) λhp=>m1 (cE v sc) λa ha=>⟨.attr a c,zw hc hp ha⟩
 | .Subscript v i p,sc=>Rz (cE v sc) (cE i sc) p
 | .List es p,sc=>m1 (mN es sc) λies S=>⟨.list ies,Ae S⟩
 | .Tuple es k p,sc=>m1 (mN es sc) λies S=>⟨.tup ies,ES S⟩
 | .Dict ks vs p,sc=>MM (mN vs sc)
 | .Call (.Name f q) es [] p,sc=>m2 (Ck f q) (mN es sc) λa ies ha S=>⟨.call a ies,Aa ha S⟩
 | .Call (.Attribute o x ap) es [] p,sc=>Kq (cE o sc) (mN es sc)
 | .ListComp elt [⟨t,it,ifs,0⟩] inner p,sc=>NM (uU (cA it sc) (cE it sc)) (mN ifs inner.names) (cE elt inner.names)
 |_,_=>none
noncomputable def mN:(es:List Expr)->(sc:aO)->Option {ies:List IE//de sc es ies}
 | [],_=>some ⟨[], .nil⟩
 |e::r,sc=>m2 (cE e sc) (mN r sc) λa b ha hb=>⟨a::b, .cons ha hb⟩
noncomputable def cB (o:BoolOp):(vs:List Expr)->(sc:aO)->Option {ie:IE//iF sc o vs ie}
 | [],_=>none
 | [x],sc=>m1 (cE x sc) λa ha=>⟨a,AU ha⟩
 |x::y::r,sc=>m2 (cE x sc) (cB o (y::r) sc) λa b ha hb=>bO o ha hb
noncomputable def cA:(it:Expr)->(sc:aO)->qz sc it
 | .Call (.Name f q) es [] p,sc=>Qw (mN es sc)
 |_,_=>none
end
noncomputable abbrev eA (sc:aO) (s:Stmt) (is:IS):Prop:=
 ∀{G:Gl} {A:Around} {n:Nat} {C:aD},Cx G A n C-> ∀{env:Env} {ρ:Loc} {σ:a0} {μ:Mu} {h:Heap} {K:KF},ai G μ σ h->aE G μ sc ρ env h->wS C is ρ σ K->yp G A sc env (exec s env) μ h K
noncomputable abbrev eg (sc:aO) (ss:List Stmt) (iss:List IS):Prop:=
 ∀{G:Gl} {A:Around} {n:Nat} {C:aD},Cx G A n C-> ∀{env:Env} {ρ:Loc} {σ:a0} {μ:Mu} {h:Heap} {K:KF},ai G μ σ h->aE G μ sc ρ env h->wSs C iss ρ σ K->yp G A sc env (execs ss env) μ h K
noncomputable def pW (e:Expr):Bool:=match e with
 | .Tuple vs _ _=> !vs.all (constantsAlone 8)
 |_=>true
theorem Hb (v:Expr):(∃vs k p,v= .Tuple vs k p)∨ ∀ts k p env,swappedStores [.Tuple ts k p] v env=pure none:=by
 cases v<;>first|exact .inr λ_ _ _ _=>rfl|exact .inl ⟨_,_,_,rfl⟩
theorem jI: ∀(k:Nat) {l:List Str},l.length≤k->l.eraseDups.length≤l.length/\(l.eraseDups.length=l.length->l.Nodup)
 |_, [],_=>⟨Nat.le_refl _,λ_=>List.nodup_nil⟩
 |k+1,a::l,h=>by
  have hf:(l.filter λb=> !b==a).length≤l.length:=List.length_filter_le ..
  obtain ⟨h1,h2⟩:=jI k (Nat.le_trans hf (Nat.le_of_succ_le_succ h))
  rw [List.eraseDups_cons]
  refine ⟨Nat.succ_le_succ (Nat.le_trans h1 hf),λe=> ?_⟩
  have e0:=Nat.succ.inj e
  have e1:(l.filter λb=> !b==a).length=l.length:=Nat.le_antisymm hf (e0▸h1)
  have e2:l.filter (λb=> !b==a)=l:=(List.filter_sublist).eq_of_length e1
  rw [e2] at h2 e0
  refine List.nodup_cons.mpr ⟨λhm=> ?_,h2 e0⟩
  rw [←e2,List.mem_filter,beq_self_eq_true] at hm
  exact nomatch hm.2
theorem Bc {f:Expr->Option Str} (hf: ∀t x,f t=some x-> ∃p,t= .Name x p) {ts:List Expr} (h:(ts.filterMap f).length=ts.length):ae (λt x=> ∃p,t= .Name x p) ts (ts.filterMap f):=by
 induction ts with
 |nil=>exact .nil
 |cons t ts ih=>
  obtain ⟨x,hx⟩:=Option.isSome_iff_exists.mp (List.filterMap_length_eq_length.mp h t (.head _))
  rw [List.filterMap_cons_some hx] at h⊢
  exact .cons (hf t x hx) (ih (Nat.succ.inj h))
theorem u9 {ts:List Expr} {k:Nat} {p:Pos} {v:Expr} {env:Env} (ht:pW v=true):swappedStores [.Tuple ts k p] v env=pure none∨
  ∃ns,swappedStores [.Tuple ts k p] v env=pure (some ns)/\ae (λt x=> ∃p,t= .Name x p) ts ns/\ns.Nodup:=by
 rcases Hb v with ⟨vs,k',p',rfl⟩|h
 ·unfold swappedStores
  dsimp only
  split
  ·exact .inl rfl
  ·split
   ·exact .inl rfl
   ·split
    ·exact .inl rfl
    ·rename_i h3
     split
     ·exact .inl rfl
     ·rw [if_neg λz:vs.all (constantsAlone 8)=true=>by have Qe:(!vs.all (constantsAlone 8))=true:=ht;rw [z] at Qe;exact nomatch Qe]
      obtain ⟨q1,q2⟩:=Bool.or_eq_false_iff.mp (Bool.not_eq_true _▸h3)
      have q1:=bne_eq_false_iff_eq.mp q1
      refine .inr ⟨_,rfl,Bc (λt x e=> ?_) q1,(jI _ (Nat.le_refl _)).2 (bne_eq_false_iff_eq.mp q2)⟩
      split at e
      ·split at e
       ·cases e;exact ⟨_,rfl⟩
       ·cases e
      ·cases e
 ·exact .inl (h ..)
section
variable {sc:aO} {pos p:Pos}
theorem Hj:eg sc [] []:=λX=>λH L e g d tk os Q q=>jA (q .next .next _ _ _ tk _ e rfl (.refl ..) H L)
theorem Fc {s:Stmt} {is:IS} {ss:List Stmt} {iss:List IS} (hs:eA sc s is) (ht:eg sc ss iss):eg sc (s::ss) (is::iss):=λX=>λH L e g d tk os Q q=>sU (hs X H L e g d tk os _ λfl f ρ1 μ1 h1 aK σ1 k1 rf S1 H1 L1=>by
 cases fl with
 |next=>cases rf;exact ht X H1 L1 k1 g d aK os _ (q.after S1)
 |cont=>cases rf;exact q .cont .cont ρ1 μ1 h1 aK σ1 k1 rfl S1 H1 L1
 |ret V=>exact let ⟨v,e,rv⟩:=rf;e▸q (.ret V) (.ret v) ρ1 μ1 h1 aK σ1 k1 ⟨v,rfl,rv⟩ S1 H1 L1)
variable {G:Gl} {A:Around} {μ μ':Mu} {h h':Heap} {g:Array GenState} {d:Drawn} {os:OsState} {env:Env}
theorem KS.done {K:KF} {Q:Flow->Shared->Prop} (q:KS G K sc env μ h g d os Q) {ρ:Loc} {σ':a0} {tk:Nat} {fl:Fl} {f:Flow} (k:K fl ρ σ') (rf:HJ G μ' fl f) (S:Step aS μ h μ' h') (H:ai G μ' σ' h') (L:aE G μ sc ρ env h):Q f ⟨h',g,d,tk,os⟩:=q fl f ρ μ' h' tk σ' k rf S.gh H (L.step S)
theorem wZ (L:lu sc env):interactive env=false:=by
 unfold interactive
 rw [L.kind];rfl
variable {v t o i it:Expr} {iv ic io ii:IE}
theorem EV (hn:nc iv=true) (hv:aL sc v iv):eA sc (.Expr v pos) (.expr iv):=λX=>λH L e g d tk os Q q=>
 bD (exec_Expr _ v pos (wZ L.ok) (hv.sw hn none pos.line _)) (a8 (au (a8 (hv.ev X H L e g d tk os _ λva V μ1 h1 aK σ1 k1 r1 S1 H1=>ao (wpAny_dropValue (q.done k1 rfl S1 H1 L))))))
theorem HM (hv:aL sc v iv):eA sc (.Return (some v) pos) (.ret iv):=λX=>λH L e g d tk os Q q=>Ez (hv.ev X H L e g d tk os _ λva V μ1 h1 aK σ1 k1 r1 S1 H1=>q.done (fl:= .ret V) k1 ⟨va,rfl,r1⟩ S1 H1 L)
theorem ET:eA sc (.Return none pos) (.ret (.lit .none)):=λX=>λH L e g d tk os Q q=>sH (q.done (fl:= .ret .none) e ⟨.none,rfl,rfl⟩ (.refl ..) H L)
theorem DQ:eA sc (.Continue pos) .cont:=λX=>λH L e g d tk os Q q=>xI (q.done (fl:= .cont) e rfl (.refl ..) H L)
theorem Ke {a b:List Stmt} {ia ib:List IS} (ht:aL sc t ic) (ha:eg sc a ia) (hb:eg sc b ib):eA sc (.If t a b pos) (.iff ic ia ib):=λX=>λH L e g d tk os Q q=>Tw (ht.ts X H L (λ_ _ z=>cH z) e g d tk os _ λc μ1 h1 aK σ1 k1 S1 H1=>by
 cases c with
 |true=>exact ha X H1 (L.step S1) k1 g d aK os _ (q.after S1.gh)
 |false=>exact hb X H1 (L.step S1) k1 g d aK os _ (q.after S1.gh))
theorem B8 {b:List Stmt} {ib:List IS} (ht:aL sc t ic) (hb:eg sc b ib):eA sc (.While t b [] pos) (.kS ic ib):=λX=>λH L e g d tk os Q q=>
 bD (exec_While ..) (a8 (au (mM (qL (λH L hb e=>ht.ts X H L hb e) (λH L e=>hb X H L e) turns H L e q))))
theorem Am {own:Addr->Prop} {fp:List Addr} {μ1:Mu} {h1:Heap} (S:eM own fp μ1 h1 μ' h') (S0:Step aS μ h μ1 h1) (hf: ∀x∈fp,h.get? x=none):Step own μ h μ' h':=
 ⟨S0.pre.trans S.pre,λx i=>(S.new x i).elim (S0.new x) λe=> .inr (S0.none_of e),
  λx o n i e=>S.keep x o n (λq=>nomatch (hf x q).symm.trans e) (S0.fS e i) (S0.keep x o (λq=>q) i e),
  λx o e=>let ⟨_,e'⟩:=S0.live x o e;S.live _ _ (λq=>nomatch (hf x q).symm.trans e) e'⟩
theorem pd {ρ:Loc} (L:aE G μ sc ρ env h) {x:Addr} (a:eK env x): ∃o,h.get? x=some o:=
 a.elim (λe=>let ⟨m,hm,_⟩:=L.val;e▸lb hm) λ⟨n,hn⟩=>let ⟨v,hi⟩:=(L.cell n x hn).is;fB hi
theorem Ij {b:List Stmt} {ib:List IS} {nt:NT} {k:SK} {ies:List IE} (T:cL sc t nt) (S:j0 sc it k ies) (hb:eg sc b ib):eA sc (.For t it b [] pos) (.cY nt k ies ib):=by
 intro G A n C X env ρ σ μ h K H L e g d tk os Q q
 show ag _ A (do standAt pos;let x←foldedSetIterable it env (←eval it env);standAt it.pos;runOwn (.forLoop t (←holding [x] (pyIter x)) b [] env) env) _ _
 refine a8 (au (a8 (ak (S.iter (P:=λσ1=>CA nt (wSs C ib) ρ σ1 K) X H L e g d tk os (λv s2=>ag (model G.prog G.w) A (runOwn (.forLoop t v b [] env) env) Q s2) λsrc I fp μ1 h1 aK σ1 k1 S1 H1 rZ O1 fr=>mM ?_) λx s1 z=>a8 (b8 (S.fo env x) (a8 (au (a8 (aq z))))))))
 obtain ⟨ok,k1⟩:=qV k1
 have nd:jE src=false:=by cases src<;>first|rfl|exact nomatch ok
 exact wF X.R.handled T nd (λx hx a=>let ⟨o,e⟩:=pd L a;nomatch (fr x hx).symm.trans e) (λH L e=>hb X H L e) turns H1 (L.step S1) rZ O1 k1 λfl f ρ' μ2 h2 b9 σ2 k2 rf S2 H2 L2=>q fl f ρ' μ2 h2 b9 σ2 k2 rf (Am S2 S1 fr) H2 L2
theorem iT {t value:Expr} {M:Model} {Q:Flow->Shared->Prop} {s:Shared} (hs:swapsWith value (some t) pos.line env=pure false)
  (h:ag M A (eval value env) (λv s1=>ag M A (swappedStores [t] value env) (λr s2=>ag M A (assignStores env v r ((assignEach [t] env).map (·.2))) Q s2) s1) s):ag M A (exec (.Assign [t] value pos) env) Q s:=by
 rw [exec_Assign_arm]
 refine a8 (au ?_)
 rw [show swapsWithSole [t] value pos.line env=pure false from hs]
 exact a8 (ah (a8 (ak h λv s1 h1=>a8 h1)))
theorem Ee {x:Str} {c:Nat} (hc:aM x=some c) (hn:nc iv=true) (ho:aL sc o io) (hv:aL sc v iv):eA sc (.Assign [.Attribute o x p] v pos) (.aA io c iv):=by
 intro G A n C X env ρ σ μ h K H L e g d tk os Q q
 obtain ⟨s,hs,rfl⟩:=bp hc
 refine iT (hv.sw hn _ _ _) (hv.ev X H L e g d tk os _ λva V μ1 h1 aK σ1 k1 r1 S1 H1=>b8 (a:=none) rfl ?_)
 show ag _ A (do assign (.Attribute o (nm s) p) env va;pure Flow.next) _ _
 refine a8 ?_
 rw [assign_Attribute]
 refine a8 (aq (ho.ev X H1 (L.step S1) k1 g d aK os _ λvo Vo μ2 h2 b9 σ2 k2 r2 S2 H2=>a8 (au (a8 (aq ?_)))))
 exact ao (eF X.K hs H2 r2 (r1.mono S2.pre) k2 g d b9 os _ ow λμ3 h3 iu σ3 k3 S3 H3=>lO (ah (q.done k3 rfl (S1.andThen (S2.andThen S3)) H3 L)))
theorem KU.after {K:a0->Prop} {Q:Unit->Shared->Prop} (q:KU G K μ h g d os Q) (S:Step aS μ h μ' h'):KU G K μ' h' g d os Q:=λμ2 h2 tk σ k S2 H2=>q μ2 h2 tk σ k (S.andThen S2) H2
theorem jX {n:Nat} {C:aD} (X:Cx G A n C) (ho:aL sc o io) (hi:aL sc i ii) {ρ:Loc} {σ:a0} {V:AV} {va:Value} (H:ai G μ σ h) (L:aE G μ sc ρ env h) (rv:VR G μ V va) {P:a0->Prop} (e:wE C io ρ σ (HH (wE C ii ρ) V P))
  {tk:Nat} {Q:Unit->Shared->Prop} (q:KU G P μ h g d os Q):ag (model G.prog G.w) A (assign (.Subscript o i p) env va) Q ⟨h,g,d,tk,os⟩:=by
 rw [assign_Subscript]
 refine a8 (aq (ho.ev X H L e g d tk os _ λvo Vo μ1 h1 aK σ1 k1 r1 S1 H1=>a8 (aq (hi.ev X H1 (L.step S1) k1 g d aK os _ λvi Vi μ2 h2 b9 σ2 k2 r2 S2 H2=>a8 (au (a8 (aq ?_)))))))
 exact ao (EB X.K X.R H2 (r1.mono S2.pre) r2 (rv.mono (S1.andThen S2).pre) k2 g d b9 os _ ow λμ3 h3 iu σ3 k3 S3 H3=>lO (q μ3 h3 iu σ3 k3 (S1.andThen (S2.andThen S3)) H3))
theorem Fd (hn:nc iv=true) (ho:aL sc o io) (hi:aL sc i ii) (hv:aL sc v iv):eA sc (.Assign [.Subscript o i p] v pos) (.dM io ii iv):=by
 intro G A n C X env ρ σ μ h K H L e g d tk os Q q
 refine iT (hv.sw hn _ _ _) (hv.ev X H L e g d tk os _ λva V μ1 h1 aK σ1 k1 r1 S1 H1=>b8 (a:=none) rfl ?_)
 show ag _ A (do assign (.Subscript o i p) env va;pure Flow.next) _ _
 exact a8 (jX X ho hi H1 (L.step S1) r1 k1 λμ2 h2 b9 σ2 k2 S2 H2=>ah (q.done k2 rfl (S1.andThen S2) H2 L))
theorem B5 {o2 i2:Expr} {K8 K9:IE} {p1 p2:Pos} {k:Nat} (hn:nc iv=true) (ht:pW v=true) (ho:aL sc o io) (hi:aL sc i ii) (VT:aL sc o2 K8) (rY:aL sc i2 K9) (hv:aL sc v iv):eA sc (.Assign [.Tuple [.Subscript o i p1, .Subscript o2 i2 p2] k p] v pos) (.lx io ii K8 K9 iv):=by
 intro G A n C X env ρ σ μ h K H L e g d tk os Q q
 have VU:swappedStores [.Tuple [.Subscript o i p1, .Subscript o2 i2 p2] k p] v env=pure none:=(u9 ht).elim id λ⟨ns,_,a,_⟩=>by
  cases a with
  |cons a _=>exact let ⟨_,z⟩:=a;nomatch z
 refine iT (hv.sw hn _ _ _) (hv.ev X H L e g d tk os _ λva V μ1 h1 aK σ1 k1 r1 S1 H1=>b8 VU ?_)
 show ag _ A (do assign (.Tuple [.Subscript o i p1, .Subscript o2 i2 p2] k p) env va;pure Flow.next) _ _
 refine a8 ?_
 rw [arm_assign_Tuple]
 refine a8 (au ?_)
 show ag _ A (holding [va] (unpackItems va 2 none)>>=λaj=>assignInOrder [assign (.Subscript o i p1) env,assign (.Subscript o2 i2 p2) env] aj) _ _
 refine a8 (aq (ao (km (P:=s2 (Ib (wE C io ρ) (wE C ii ρ) (wE C K8 ρ) (wE C K9 ρ) σ1 (C4 ρ K))) X.R.handled H1 r1 k1 (λxs z=> ?_) λxs items h2 z ha hk=> ?_)))
 ·cases xs with
  |nil=>exact z.elim
  |cons x r=>cases r with
   |nil=>exact z.elim
   |cons y r=>cases r with
    |nil=>rfl
    |cons _ _=>exact z.elim
 cases ha with
 |nil=>exact z.elim
 |cons ra ha=>cases ha with
  |nil=>exact z.elim
  |cons rb ha=>cases ha with
   |cons _ _=>exact z.elim
   |nil=>
    have L2:=(L.step S1).grown hk
    show ag _ A (do holding _ (assign (.Subscript o i p1) env _);(do holding _ (assign (.Subscript o2 i2 p2) env _);pure ())) _ _
    exact a8 (aq (jX X ho hi (H1.grown hk) L2 ra z λμ3 h3 iu σ3 k3 S3 H3=>a8 (aq (jX X VT rY H3 (L2.step S3) (rb.mono S3.pre) k3 λμ4 h4 Dt σ4 k4 S4 H4=>
     ah (ah (q.done k4 rfl (S1.andThen ((Step.grown aS hk).andThen (S3.andThen S4))) H4 L))))))
end
theorem zf {ρ:Loc} {a b:Nat} {x y:AV} (h:a≠b):(ρ.put a x).put b y=(ρ.put b y).put a x:=by
 funext z
 unfold Loc.put
 by_cases h1:z=b
 ·rw [if_pos h1,if_pos h1,if_neg λe=>h (e.symm.trans h1)]
 ·rw [if_neg h1,if_neg h1]
noncomputable def putL (ρ:Loc) (l:List (Nat×AV)):Loc:=l.foldl (λρ p=>ρ.put p.1 p.2) ρ
theorem B1 {l:List (Nat×AV)} {a:Nat} {x:AV}: ∀{ρ:Loc},a∉l.map (·.1)->(putL ρ l).put a x=putL (ρ.put a x) l:=by
 induction l with
 |nil=>exact λ_=>rfl
 |cons p l ih=>exact λh=>(ih λz=>h (.tail _ z)).trans (congrArg (putL · l) (zf λz=>h (List.mem_cons.mpr (.inl z.symm))))
theorem Ah {l:List (Nat×AV)} {ρ:Loc} (nd:(l.map (·.1)).Nodup):putL ρ l.reverse=putL ρ l:=by
 induction l with
 |nil=>rfl
 |cons p l ih=>
  obtain ⟨n1,n2⟩:=List.nodup_cons.mp nd
  have e:putL ρ (p::l).reverse=(putL ρ l.reverse).put p.1 p.2:=by unfold putL;rw [List.reverse_cons,List.foldl_append];rfl
  rw [e,ih n2,B1 n1];rfl
section
variable {G:Gl} {A:Around} {sc:aO} {env:Env} {pos p:Pos}
noncomputable def GA (sc:aO) (id:Str) (c:Nat):Prop:=aM id=some c/\ee sc id=true
theorem xQ {σ:a0} {μ:Mu} {ids:List Str} {cs:List Nat} (a:ae (GA sc) ids cs) {g:Array GenState} {d:Drawn} {os:OsState} {Q:Unit->Shared->Prop} {E:Value->Shared->Prop}: ∀{xs:List AV} {vs:List Value} {ρ:Loc} {h:Heap} {tk:Nat},ae (VR G μ) xs vs->ids.length=xs.length->
  ai G μ σ h->aE G μ sc ρ env h->(∀h' aH,Own (di sc env) h h'->ai G μ σ h'->aE G μ sc (putL ρ (cs.zip xs)) env h'->Q () ⟨h',g,d,aH,os⟩)->wpAny (model G.prog G.w) A (assignInOrder (ids.map λn=>bindName env n) vs) Q E ⟨h,g,d,tk,os⟩:=by
 induction a with
 |nil=>intro xs vs ρ h tk r hl H L q;cases r with
  |nil=>exact wpAny_pure (q h tk (.refl _ _) H L)
  |cons _ _=>exact nomatch hl
 | @cons id c ids cs a b ih=>intro xs vs ρ h tk r hl H L q;cases r with
  |nil=>exact nomatch hl
  |cons r1 r2=>
   show wpAny _ A (do holding _ (bindName env id _);assignInOrder (ids.map λn=>bindName env n) _) Q E _
   exact wpAny_bind (wpAny_holding (wpAny_bindName (rA H L a.1 a.2 r1 λh1 aK O1 H1 L1=>ih r2 (Nat.succ.inj hl) H1 L1 λh2 b9 O2 H2 L2=>q h2 b9 (O1.trans O2) H2 L2)))
theorem DV {ts:List Expr} {nts:List NT} (T:ae (cL sc) ts nts): ∀{ns:List Str},ae (λt x=> ∃p,t=Expr.Name x p) ts ns-> ∃cs,ae (GA sc) ns cs/\nts=cs.map .name:=by
 induction T with
 |nil=>intro ns a;cases a;exact ⟨[], .nil,rfl⟩
 |cons h _ ih=>intro ns a;cases a with
  |cons a b=>exact let ⟨p,e⟩:=a;let ⟨c,h1,h2,h3⟩:=h.fM _ p e;let ⟨cs,h4,h5⟩:=ih b;⟨c::cs, .cons ⟨h1,h2⟩ h4,h3▸h5▸rfl⟩
theorem oX {σ:a0} {P:Loc->Prop} {cs:List Nat}: ∀{xs:List AV} {ρ:Loc},jL σ (cs.map .name) xs ρ P->cs.length=xs.length/\P (putL ρ (cs.zip xs)):=by
 induction cs with
 |nil=>intro xs ρ e;cases xs with
  |nil=>exact ⟨rfl,e⟩
  |cons=>exact e.elim
 |cons c cs ih=>intro xs ρ e;cases xs with
  |nil=>exact e.elim
  |cons x xs=>exact let ⟨h1,h2⟩:=ih e;⟨congrArg Nat.succ h1,h2⟩
theorem ae.rev {α β:Type} {R:α->β->Prop} {l:List α} {m:List β} (h:ae R l m):ae R l.reverse m.reverse:=h.reverse
theorem code_inj {x y:Str} {c:Nat} (h1:aM x=some c) (h2:aM y=some c):x=y:=by
 obtain ⟨s,hs,rfl⟩:=bp h1
 obtain ⟨t,ht,rfl⟩:=bp h2
 cases hs.symm.trans ht;rfl
theorem sP {ns:List Str} {cs:List Nat} (a:ae (GA sc) ns cs) (nd:ns.Nodup):cs.Nodup:=by
 induction a with
 |nil=>exact List.nodup_nil
 | @cons n c ns cs h t ih=>
  obtain ⟨n1,n2⟩:=List.nodup_cons.mp nd
  refine List.nodup_cons.mpr ⟨λhm=>n1 ?_,ih n2⟩
  clear ih n1 n2 nd
  induction t with
  |nil=>exact nomatch hm
  |cons h' _ ih=>cases hm with
   |head=>exact code_inj h.1 h'.1▸ .head _
   |tail _ hm=>exact .tail _ (ih hm)
variable {v:Expr} {iv:IE}
theorem yJ {ts:List Expr} {nts:List NT} {k:Nat} (ht:pW v=true) (T:ae (cL sc) ts nts) (hn:nc iv=true) (hv:aL sc v iv):eA sc (.Assign [.Tuple ts k p] v pos) (.asg (.tup nts) iv):=by
 intro G A n C X env ρ σ μ h K H L e g d tk os Q q
 refine iT (hv.sw hn _ _ _) (hv.ev X H L e g d tk os _ λva V μ1 h1 aK σ1 k1 r1 S1 H1=> ?_)
 rcases u9 (env:=env) (ts:=ts) (k:=k) (p:=p) ht with hs|⟨ns,hs,hm,nd⟩
 ·refine b8 hs ?_
  show ag _ A (do assign (.Tuple ts k p) env va;pure Flow.next) _ _
  exact a8 (ao ((tR T).asg X.R.handled H1 (L.step S1) r1 k1 λh2 b9 ρ2 z O2 H2 L2=>ah (q .next .next ρ2 μ1 h2 b9 σ1 z rfl (S1.gh.iX O2.step) H2 L2)))
 ·refine b8 hs ?_
  obtain ⟨cs,a,rfl⟩:=DV T hm
  show ag _ A (do rule "assign.swapped-stores";let items←unpackItems va ns.length none;assignInOrder (ns.reverse.map λn=>bindName env n) items.reverse;pure Flow.next) _ _
  refine a8 (gH (a8 (ao (km (P:=Bv (jL σ1 (cs.map .name)) ρ (OR σ1 K)) X.R.handled H1 r1 k1 (λxs z=>a.length.trans (oX z).1) λxs items h2 z ha hk=>a8 (ao ?_)))))
  obtain ⟨hl,z⟩:=oX z
  refine xQ a.rev ha.reverse (by rw [List.length_reverse,List.length_reverse];exact a.length.trans hl) (H1.grown hk) ((L.step S1).grown hk) λh3 iu O3 H3 L3=>ah ?_
  have e1:cs.reverse.zip xs.reverse=(cs.zip xs).reverse:=(List.reverse_zipWith (f:=Prod.mk) hl).symm
  rw [e1,Ah (by rw [List.map_fst_zip (Nat.le_of_eq hl)];exact sP a nd)] at L3
  exact q .next .next _ μ1 h3 iu σ1 z rfl (S1.gh.iX ((Step.grown _ hk).iX O3.step)) H3 L3
variable {x:Str} {c:Nat}
theorem Io {n:Nat} {C:aD} {ρ:Loc} {σ:a0} {μ:Mu} {h:Heap} {K:KF} {g:Array GenState} {d:Drawn} {tk:Nat} {os:OsState} {Q:Flow->Shared->Prop} (hc:aM x=some c) (hk:ee sc x=true) (X:Cx G A n C) (hs:swapsWith v (some (.Name x p)) pos.line env=pure false)
  (hv:aL sc v iv) (H:ai G μ σ h) (L:aE G μ sc ρ env h) (e:wS C (.asg (.name c) iv) ρ σ K) (q:KS G K sc env μ h g d os Q):ag (model G.prog G.w) A (exec (.Assign [.Name x p] v pos) env) Q ⟨h,g,d,tk,os⟩:=by
 refine iT hs (hv.ev X H L e g d tk os _ λva V μ1 h1 aK σ1 k1 r1 S1 H1=>b8 (a:=none) rfl ?_)
 show ag _ A (do assign (.Name x p) env va;pure Flow.next) _ _
 exact a8 (ao ((mf hc hk).asg X.R.handled H1 (L.step S1) r1 k1 λh2 b9 ρ2 z O2 H2 L2=>ah (q .next .next ρ2 μ1 h2 b9 σ1 z rfl (S1.gh.iX O2.step) H2 L2)))
theorem vM (hc:aM x=some c) (hk:ee sc x=true) (hn:nc iv=true) (hv:aL sc v iv):eA sc (.Assign [.Name x p] v pos) (.asg (.name c) iv):=λX=>λH L e g d tk os Q q=>Io hc hk X (hv.sw hn _ _ _) hv H L e q
theorem vL {t elt it:Expr} {ifs:List Expr} {inner:Scope} {cp:Pos} {nt:NT} {k:SK} {ies iifs:List IE} {ie:IE} (hc:aM x=some c) (hk:ee sc x=true) (S:zT sc t elt it ifs inner nt k ies iifs ie):
  eA sc (.Assign [.Name x p] (.ListComp elt [⟨t,it,ifs,0⟩] inner cp) pos) (.asg (.name c) (.comp ie nt k ies iifs (freeOf inner.names))):=by
 intro G A n C X env ρ σ μ h K H L e g d tk os Q q
 obtain ⟨b,hb⟩: ∃b,swapsWith (.ListComp elt [⟨t,it,ifs,0⟩] inner cp) (some (.Name x p)) pos.line env=pure b:=⟨_,rfl⟩
 cases b with
 |false=>exact Io hc hk X hb (rn S) H L e q
 |true=>
  rw [exec_Assign_Name_used x p _ pos hb]
  refine a8 (au (a8 ?_))
  rw [arm_evalThenUse_ListComp]
  refine a8 (qT S X H L e (use:=some (assign (.Name x p) env)) λV acc a μ1 h1 aK m σ1 k1 rv S1 H1 hn out g0 na=> ?_)
  show ag _ A (assign (.Name x p) env acc) _ _
  have nown: ∀{y},eK env y->y≠a:=λz e=>by subst e;exact let ⟨o,e⟩:=pd L z;nomatch na.symm.trans e
  refine ao ((mf hc hk).asg X.R.handled H1 (L.step S1) rv k1 λh2 b9 ρ2 z O2 H2 L2=>⟨m,hn.at λo e=>O2.keep _ o (λz=>nown z.all rfl) e,λh3 uF=>ah (ah ?_)⟩)
  have L3:aE G μ1 sc ρ2 env h3:=L2.off (fp:= [a]) (λy hy z=>nown z (List.mem_singleton.mp hy)) λb o hb e=>(uF.2 b λz=>hb (z▸ .head _)).trans e
  have T:Step (di sc env) μ h μ1 h2:=S1.gh.iX O2.step
  have ne: ∀{y o},h.get? y=some o->y≠a:=λe z=>by subst z;exact nomatch na.symm.trans e
  exact q .next .next ρ2 μ1 h3 b9 σ1 z rfl ⟨T.pre,T.new,λy o n i e=>(uF.2 y (ne e)).trans (T.keep y o n i e),λy o e=>let ⟨o',e'⟩:=T.live y o e;⟨o',(uF.2 y (ne e)).trans e'⟩⟩ (H2.gX uF out g0) L3
end
noncomputable abbrev OS (sc:aO) (s:Stmt):Type:=Option {is:IS//eA sc s is}
section
variable {sc:aO} {p pos:Pos}
noncomputable def xp {e:Expr} (x:OE sc e):Option {ie:IE//aL sc e ie/\nc ie=true}:=match x with
 |some a=>gd (nc a.1) λh=>some ⟨a.1,a.2,h⟩
 |none=>none
noncomputable def TB {ts:List Expr} {k:Nat} {v:Expr}:OS sc (.Assign [.Tuple ts k p] v pos):=gd (pW v) λht=>match xp (cE v sc) with
 |some a=>match Gv sc ts with
  |some nts=>some ⟨.asg (.tup nts.1) a.1,yJ ht nts.2 a.2.2 a.2.1⟩
  |none=>match ts with
   | [.Subscript o i p1, .Subscript o2 i2 p2]=>match cE o sc,cE i sc with
    |some x,some y=>match cE o2 sc,cE i2 sc with
     |some x2,some y2=>some ⟨.lx x.1 y.1 x2.1 y2.1 a.1,B5 a.2.2 ht x.2 y.2 x2.2 y2.2 a.2.1⟩
     |_,_=>none
    |_,_=>none
   |_=>none
 |none=>none
noncomputable def Uz {x:Str} {c:Nat} (hc:aM x=some c) (hk:ee sc x=true) {t elt it:Expr} {ifs:List Expr} {inner:Scope} {cp:Pos}:OS sc (.Assign [.Name x p] (.ListComp elt [⟨t,it,ifs,0⟩] inner cp) pos):=
 gd (qu sc inner.names) λho=>if hf:inner.kind= .function then match cN inner.names t with
  |some nt=>match uU (cA it sc) (cE it sc) with
   |some s=>m2 (mN ifs inner.names) (cE elt inner.names) λiifs ie hi he=>⟨.asg (.name c) (.comp ie nt.1 s.1.1 s.1.2 iifs (freeOf inner.names)),vL hc hk ⟨nt.2,hf,oH ho,s.2,hi,he⟩⟩
   |none=>none
  |none=>none else none
noncomputable def Uw {x:Str} {v:Expr}:OS sc (.Assign [.Name x p] v pos):=oS (aM x) λc hc=>gd (ee sc x) λhk=>match v with
 | .ListComp elt [⟨t,it,ifs,0⟩] inner cp=>Uz hc hk
 |v=>match xp (cE v sc) with
  |some a=>some ⟨.asg (.name c) a.1,vM hc hk a.2.2 a.2.1⟩
  |none=>none
noncomputable def Rh {t v:Expr}:OS sc (.Assign [t] v pos):=match t with
 | .Name x p=>Uw
 | .Tuple ts k p=>TB
 | .Attribute o x p=>oS (aM x) λc hc=>m2 (cE o sc) (xp (cE v sc)) λio iv ho hv=>⟨.aA io c iv,Ee hc hv.2 ho hv.1⟩
 | .Subscript o i p=>match cE o sc with
  |some a=>m2 (cE i sc) (xp (cE v sc)) λii iv hi hv=>⟨.dM a.1 ii iv,Fd hv.2 a.2 hi hv.1⟩
  |none=>none
 |_=>none
end
mutual
noncomputable def cS (sc:aO):(s:Stmt)->OS sc s
 | .Expr v p=>m1 (xp (cE v sc)) λa h=>⟨.expr a,EV h.2 h.1⟩
 | .Return v p=>match v with
  |some e=>m1 (cE e sc) λa h=>⟨.ret a,HM h⟩
  |none=>some ⟨.ret (.lit .none),ET⟩
 | .Assign [t] v p=>Rh
 | .If t a b p=>match cE t sc with
  |some x=>m2 (qW sc a) (qW sc b) λia ib ha hb=>⟨.iff x.1 ia ib,Ke x.2 ha hb⟩
  |none=>none
 | .While t b [] p=>m2 (cE t sc) (qW sc b) λic ib hc hb=>⟨.kS ic ib,B8 hc hb⟩
 | .For t it b [] p=>match cN sc t with
  |some nt=>m2 (uU (cA it sc) (cE it sc)) (qW sc b) λs ib hs hb=>⟨.cY nt.1 s.1 s.2 ib,Ij nt.2 hs hb⟩
  |none=>none
 | .Continue p=>some ⟨.cont,DQ⟩
 |_=>some ⟨.fail,λX=>λH L e=>e.elim⟩
noncomputable def qW (sc:aO):(ss:List Stmt)->Option {iss:List IS//eg sc ss iss}
 | []=>some ⟨[],Hj⟩
 |s::r=>m2 (cS sc s) (qW sc r) λa b ha hb=>⟨a::b,Fc ha hb⟩
end
theorem KC {sc:aO} {ss:List Stmt} {iss:List IS} (h:(qW sc ss).map (·.1)=some iss):eg sc ss iss:=by
 obtain ⟨a,_,e⟩:=Option.map_eq_some_iff.mp h
 exact e▸a.2
theorem zF {G:Gl} (K:dd G) (T:o6 G) (GF:tC G) (rz:nsIn G.K mainGlobals "range"=some none/\nsIn G.K mainGlobals "zip"=some none) (FT: ∀f a,G.fa f a-> ∃fn,x7 f=some fn/\vp G eg fn a) (n:Nat):iJ G n (callI n):=by
 induction n with
 |zero=>intro f a F A μ σ h as vs KK R H ra e;rw [tI] at e;exact e.elim
 |succ n ih=>
  intro f a F A μ σ h as vs KK R H ra e g d tk os Q q
  obtain ⟨fn,hf,F⟩:=FT f a F
  rw [mq,hf] at e
  exact xO K T F R H ra e (λS R1 H L e=>S ⟨K,T,GF,ih,tT n,R1,rz⟩ H L e) q
end Mine.Internal
namespace Mine.Internal.H
open PySem PySem.W PySem.Calls PyProof.Rows
noncomputable section
noncomputable abbrev pw:Program:=PySem.Challenge.pw_pq0919_01
noncomputable def RP:Stmt:= .Pass ⟨0,0,0,0⟩
noncomputable def A8:List Stmt->Nat->Stmt
 | [],_=>RP
 |a::_,0=>a
 |_::r,n+1=>A8 r n
noncomputable def c0:List Stmt:=behindTheImports pw
noncomputable def sA (k:Nat):Stmt:=A8 c0 k
noncomputable def Uy:Stmt->List Stmt
 | .ClassDef _ _ _ b _ _ _ _ _ _ _=>b
 |_=> []
noncomputable def sM (k j:Nat):Stmt:=A8 (Uy (sA k)) j
noncomputable def OP:Stmt->Str
 | .FunctionDef n _ _ _ _ _ _ _ _ _=>n
 |_=> .empty
noncomputable def Pl:Stmt->Arguments
 | .FunctionDef _ a _ _ _ _ _ _ _ _=>a
 |_=>⟨[], [],none, [], [],none, []⟩
noncomputable def OF:Stmt->List Stmt
 | .FunctionDef _ _ b _ _ _ _ _ _ _=>b
 |_=> []
noncomputable def OO:Stmt->Scope
 | .FunctionDef _ _ _ _ _ _ s _ _ _=>s
 |_=>pw.main.scope
noncomputable def fD (st:Stmt) (q:Str) (g:Addr) (df kw md cd:Value):FuncData:=
 {name:=OP st,qualname:=q,params:=Pl st,body:= .stmts (OF st),scope:=OO st,globals:=g,closure:= [],defaults:=df,kwdefaults:=kw,pyModule:=md,code:=cd}
noncomputable def tO (l:List Value):Obj:=⟨.type "tuple",none, .seq ⟨l⟩ 0,⟨[]⟩⟩
noncomputable def fO (l:List Value):Obj:=⟨.none,none, .fields ⟨l⟩,⟨[]⟩⟩
noncomputable def cO (l:List Value):Obj:=⟨.type "code",none, .fields ⟨l⟩,⟨[]⟩⟩
noncomputable def cK (s:String) (n:Nat) (s':String) (l a b c d r:Nat) (x:Bool) (q:Nat) (u v w z:Value) (m e:Nat):Obj:=cO [.str s n, .str s' (n+1), .str "/claim/cut.py" (n+2), .int l 0, .int a 0, .int b 0, .int c 0, .int d 0, .ref r, .bool x, .int 181 0, .ref q,u,v,w,z, .int m 0, .int l 0, .str "/claim/cut.py" e]
noncomputable def rO (l:List (Option Value)):Obj:=⟨.type "frame",none, .plain,⟨l⟩⟩
noncomputable def oO (d:Data):Obj:=⟨.none,none,d,⟨[]⟩⟩
noncomputable def uO (f:FuncData):Obj:=⟨.type "function",none, .func f,⟨[]⟩⟩
noncomputable def dO (es:List DictEntry) (n:Nat):Obj:=⟨.type "dict",none, .dict ⟨es⟩ n,⟨[]⟩⟩
noncomputable def en (P:Params) (x:Str) (t:Nat) (v:Value):DictEntry:=⟨PyData.keyHash P x, .str x t,v⟩
noncomputable def alt (l:List Obj):Bool->List Obj:=
 @List.rec Obj (λ_=>Bool->List Obj) (λ_=> []) (λa _ ih b=> @Bool.rec (λ_=>List Obj) (ih true) (a::ih false) b) l
noncomputable def dc (n:Nat):List Obj->BT:=
 @Nat.rec (λ_=>List Obj->BT) (λ_=> .nil) (λ_ ih l=> @List.rec Obj (λ_=>BT) .nil (λa r _=> .node a (ih (alt r true)) (ih (alt r false))) l) n
noncomputable abbrev lf:Life:=({}:Heap).life
noncomputable abbrev dr:Drawn:=boot_drawn
noncomputable abbrev an:Option Value:=some (.ref 6)
noncomputable abbrev E0:Env:={scope:=pw.main.scope,locals:=mainNs,globals:=mainNs,cells:= [],code:= .ref 13,frame:=some 14}
noncomputable abbrev cE:Code:= .body c0 E0
noncomputable abbrev q0:Pos:=⟨0,0,0,0⟩
noncomputable def sl (a m:Nat):List Stmt:=(c0.drop a).take m
noncomputable def pt (l:List Obj) (i:Nat) (o:Obj):List Obj:=l.set i o
noncomputable def oM (a b:Nat) (s:String) (n:Nat):Obj:=oO (.func (fD (sM a b) s n .none .none .none .none))
noncomputable def oA (a:Nat) (s:String) (n:Nat):Obj:=oO (.func (fD (sA a) s n .none .none .none .none))
noncomputable def uM (a b:Nat) (s:String) (n:Nat) (t:String) (m k:Nat):Obj:=uO (fD (sM a b) s n .none .none (.str t m) (.ref k))
noncomputable def uA (a:Nat) (s:String) (n:Nat) (t:String) (m k:Nat):Obj:=uO (fD (sA a) s n .none .none (.str t m) (.ref k))
noncomputable def tF (t:String) (l:List Value):Obj:=⟨.type t,none, .fields ⟨l⟩,⟨[]⟩⟩
noncomputable def kO (n:String) (b m:List Value) (s:Nat) (q:String) (u:List Value) (l:List (Option Value)):Obj:=⟨.type "type",none, .cls {name:=n,bases:=b,mro:=m,ns:=s,qualname:=q,hasDict:=true,slotNames:= [],subclasses:=u,abstract:=false,collection:=none,hasDel:=false},⟨l⟩⟩
section
variable (P:Params)
def o2:Obj:=⟨.none,none,(.dict ⟨[en P "type.__subclasses__.Exception.0" 223 (.int 39 0),en P "type.__subclasses__.Exception.n" 224 (.int 1 0)]⟩ 2),⟨[]⟩⟩
def Pc:=tO []
def OT:=cK "<module>" 182 "<module>" 1 0 0 0 0 11 false 12 .none .none .none .none 185 186
def OW:=rO [some (.ref 13),some (.ref 3),some (.ref 3),none,some (.str "__main__" 164),none,some (.ref 0)]
def Ph:=cK "octets_of" 275 "octets_of" 16 1 0 0 3 79 true 80 .none .none .none (.ref 81) 278 279
def Pb:=uA 7 "octets_of" 3 "postcore.base" 194 82
def OY:=cK "hex_octets" 281 "hex_octets" 22 1 0 0 3 84 true 85 .none (.ref 86) (.ref 87) (.ref 88) 288 289
def Po:=uA 8 "hex_octets" 3 "postcore.base" 194 89
def OH:=cK "decimal_octets" 291 "decimal_octets" 29 1 0 0 3 91 true 92 .none (.ref 93) (.ref 94) (.ref 95) 297 298
def P0:=uA 9 "decimal_octets" 3 "postcore.base" 194 96
def GB:=tO [.bool false, .int 3 306]
def II:=cK "__init__" 320 "Thing.__init__" 45 5 0 0 3 106 true 107 .none (.ref 108) (.ref 109) (.ref 110) 328 329
def FU:=uO (fD (sM 14 0) "Thing.__init__" 3 (.ref 105) .none (.str "postcore.objects" 300) (.ref 111))
def FN:=dO [en P "__module__" 315 (.str "postcore.objects" 300),en P "__firstlineno__" 319 (.int 43 318),en P "__init__" 330 (.ref 112),en P "__static_attributes__" 335 (.ref 113),en P "__dict__" 337 (.ref 116),en P "__weakref__" 339 (.ref 117),en P "__doc__" 340 .none] 4
def H0:=kO "Thing" [.type "object"] [.ref 115, .type "object"] 114 "Thing" [] [none,none,some (.str "Thing" 308),some (.str "Thing" 316),some (.builtin "object.__new__"),some (.bool true)]
def HV:=cK "__init__" 355 "Text.__init__" 52 5 0 0 3 127 true 128 .none (.ref 129) (.ref 130) (.ref 131) 363 364
def Gw:=uM 15 0 "Text.__init__" 3 "postcore.objects" 300 132
def Ic:=dO [en P "__module__" 350 (.str "postcore.objects" 300),en P "__firstlineno__" 354 (.int 50 353),en P "__init__" 365 (.ref 133),en P "__static_attributes__" 370 (.ref 134),en P "__dict__" 372 (.ref 137),en P "__weakref__" 374 (.ref 138),en P "__doc__" 375 .none] 4
def Hn:=kO "Text" [.type "object"] [.ref 136, .type "object"] 135 "Text" [] [none,none,some (.str "Text" 343),some (.str "Text" 351),some (.builtin "object.__new__"),some (.bool true)]
def Il:=cK "__init__" 390 "Row.__init__" 59 5 0 0 3 148 true 149 .none (.ref 150) (.ref 151) (.ref 152) 398 399
def HN:=uM 16 0 "Row.__init__" 3 "postcore.objects" 300 153
def Hx:=dO [en P "__module__" 385 (.str "postcore.objects" 300),en P "__firstlineno__" 389 (.int 57 388),en P "__init__" 400 (.ref 154),en P "__static_attributes__" 405 (.ref 155),en P "__dict__" 407 (.ref 158),en P "__weakref__" 409 (.ref 159),en P "__doc__" 410 .none] 4
def HP:=kO "Row" [.type "object"] [.ref 157, .type "object"] 156 "Row" [] [none,none,some (.str "Row" 378),some (.str "Row" 386),some (.builtin "object.__new__"),some (.bool true)]
def IT:=cK "__init__" 425 "DictBody.__init__" 66 5 0 0 3 169 true 170 .none (.ref 171) (.ref 172) (.ref 173) 433 434
def Fv:=uM 17 0 "DictBody.__init__" 3 "postcore.objects" 300 174
def GI:=cK "pairs" 444 "DictBody.pairs" 77 1 0 0 3 183 true 184 .none .none .none (.ref 185) 447 448
def HD:=uM 17 2 "DictBody.pairs" 3 "postcore.objects" 300 186
def Iw:=dO [en P "__module__" 420 (.str "postcore.objects" 300),en P "__firstlineno__" 424 (.int 64 423),en P "__init__" 435 (.ref 175),en P "get" 443 (.ref 182),en P "pairs" 449 (.ref 187),en P "__static_attributes__" 456 (.ref 188),en P "__dict__" 458 (.ref 191),en P "__weakref__" 460 (.ref 192),en P "__doc__" 461 .none] 4
def GS:=kO "DictBody" [.type "object"] [.ref 190, .type "object"] 189 "DictBody" [] [none,none,some (.str "DictBody" 413),some (.str "DictBody" 421),some (.builtin "object.__new__"),some (.bool true)]
def Hy:=cK "__init__" 476 "Span.__init__" 81 4 0 0 3 202 true 203 .none (.ref 204) (.ref 205) (.ref 206) 483 484
def FF:=uM 18 0 "Span.__init__" 3 "postcore.objects" 300 207
def Fx:=dO [en P "__module__" 471 (.str "postcore.objects" 300),en P "__firstlineno__" 475 (.int 79 474),en P "__init__" 485 (.ref 208),en P "__static_attributes__" 489 (.ref 209),en P "__dict__" 491 (.ref 212),en P "__weakref__" 493 (.ref 213),en P "__doc__" 494 .none] 4
def I9:=kO "Span" [.type "object"] [.ref 211, .type "object"] 210 "Span" [] [none,none,some (.str "Span" 464),some (.str "Span" 472),some (.builtin "object.__new__"),some (.bool true)]
def Hk:=cK "is_in_array" 526 "is_in_array" 97 1 0 0 3 245 true 246 .none (.ref 247) (.ref 248) (.ref 249) 530 531
def Ga:=uA 23 "is_in_array" 3 "postcore.objects" 300 250
def HZ:=cK "body_of" 533 "body_of" 99 1 0 0 3 252 true 253 .none (.ref 254) (.ref 255) (.ref 256) 537 538
def Gz:=uA 24 "body_of" 3 "postcore.objects" 300 257
def Fh:=cK "access_of" 540 "access_of" 103 1 0 0 3 259 true 260 .none (.ref 261) (.ref 262) (.ref 263) 544 545
def FY:=uA 25 "access_of" 3 "postcore.objects" 300 264
def Ag:=tO [.str "string" 625, .str "array" 626, .str "packed" 627, .str "dict" 628, .str "file" 629, .str "gstate" 630, .str "save" 631]
def GC:=cK "flat_key" 633 "flat_key" 150 1 0 0 3 337 true 338 .none (.ref 339) (.ref 340) (.ref 341) 638 639
def Gk:=uA 38 "flat_key" 3 "postcore.flatparts" 623 342
def Ii:=cK "flat_value_octets" 645 "flat_value_octets" 157 1 0 0 3 344 true 345 .none .none .none (.ref 346) 648 649
def Hf:=uA 41 "flat_value_octets" 3 "postcore.flattexts" 641 347
def Gm:=cK "__init__" 663 "OperandTeller.__init__" 171 2 0 0 3 356 true 357 .none (.ref 358) (.ref 359) (.ref 360) 668 669
def Ho:=uM 42 0 "OperandTeller.__init__" 3 "postcore.flattexts" 641 361
def HK:=cK "told" 671 "OperandTeller.told" 176 3 0 0 3 363 true 364 .none (.ref 365) (.ref 366) (.ref 367) 678 679
def GP:=uM 42 1 "OperandTeller.told" 3 "postcore.flattexts" 641 368
def GQ:=cK "shared" 681 "OperandTeller.shared" 182 3 0 0 3 370 true 371 .none (.ref 372) (.ref 373) (.ref 374) 690 691
def H6:=uM 42 2 "OperandTeller.shared" 3 "postcore.flattexts" 641 375
def Ip:=cK "within" 693 "OperandTeller.within" 197 3 0 0 3 377 true 378 .none .none .none (.ref 379) 696 697
def FE:=uM 42 3 "OperandTeller.within" 3 "postcore.flattexts" 641 380
def Ig:=dO [en P "__module__" 658 (.str "postcore.flattexts" 641),en P "__firstlineno__" 662 (.int 169 661),en P "__init__" 670 (.ref 362),en P "told" 680 (.ref 369),en P "shared" 692 (.ref 376),en P "within" 698 (.ref 381),en P "__static_attributes__" 702 (.ref 382),en P "__dict__" 704 (.ref 385),en P "__weakref__" 706 (.ref 386),en P "__doc__" 707 .none] 4
def Hq:=kO "OperandTeller" [.type "object"] [.ref 384, .type "object"] 383 "OperandTeller" [] [none,none,some (.str "OperandTeller" 651),some (.str "OperandTeller" 659),some (.builtin "object.__new__"),some (.bool true)]
def IC:=tO [.int 6 710]
def H5:=cK "operand_octets" 711 "operand_octets" 204 2 0 0 3 390 true 391 .none .none .none (.ref 392) 714 715
def Gx:=uO (fD (sA 43) "operand_octets" 3 (.ref 389) .none (.str "postcore.flattexts" 641) (.ref 393))
def Iu:=cK "__init__" 1010 "MachineCore.__init__" 315 7 0 0 3 621 true 622 .none (.ref 623) (.ref 624) (.ref 625) 1020 1021
def IK:=uM 53 0 "MachineCore.__init__" 3 "postcore.machine" 774 626
def IU:=cK "begin" 1023 "MachineCore.begin" 318 7 0 0 3 628 true 629 .none (.ref 630) (.ref 631) (.ref 632) 1033 1034
def HL:=uM 53 1 "MachineCore.begin" 3 "postcore.machine" 774 633
def IF:=dO [en P "__module__" 1005 (.str "postcore.machine" 774),en P "__firstlineno__" 1009 (.int 313 1008),en P "__init__" 1022 (.ref 627),en P "begin" 1035 (.ref 634),en P "push_frame" 1043 (.ref 641),en P "drop" 1052 (.ref 648),en P "cut_frames" 1061 (.ref 655),en P "cut_from" 1070 (.ref 662),en P "frames_row" 1077 (.ref 669),en P "place_of_frame" 1087 (.ref 678),en P "stop" 1095 (.ref 685),en P "trace" 1104 (.ref 692),en P "push_operand" 1112 (.ref 699),en P "met" 1120 (.ref 706),en P "execute" 1128 (.ref 713),en P "run_proc" 1136 (.ref 720),en P "run_source" 1144 (.ref 727),en P "lookup" 1152 (.ref 734),en P "value_of" 1161 (.ref 741),en P "run_name" 1170 (.ref 748),en P "call" 1182 (.ref 755),en P "scanned" 1190 (.ref 762),en P "tell" 1198 (.ref 769),en P "failed" 1208 (.ref 776),en P "step" 1218 (.ref 783),en P "go_on" 1229 (.ref 791),en P "run" 1238 (.ref 798),en P "begun" 1246 (.ref 805),en P "run_down" 1256 (.ref 812),en P "run_thing" 1265 (.ref 819),en P "install" 1273 (.ref 826),en P "__static_attributes__" 1300 (.ref 827),en P "__dict__" 1302 (.ref 830),en P "__weakref__" 1304 (.ref 831),en P "__doc__" 1305 .none] 4
def GW:=kO "MachineCore" [.type "object"] [.ref 829, .type "object"] 828 "MachineCore" [] [none,none,some (.str "MachineCore" 998),some (.str "MachineCore" 1006),some (.builtin "object.__new__"),some (.bool true)]
def HE:=tO [.int 500 1326, .int 20 1327, .int 250 1328, .int 15 1329, .int 31 1330, .int 65535 1331, .int 65535 1332, .int 65535 1333, .int 127 1334, .int 1500 1335, .int 11 1336, .int 15 1337, .int 600 1338, .int 16777216 1312]
def Ft:=cK "__init__" 1339 "Limits.__init__" 527 15 0 0 3 842 true 843 .none (.ref 844) (.ref 845) (.ref 846) 1357 1358
def Iv:=uO (fD (sM 56 0) "Limits.__init__" 3 (.ref 841) .none (.str "postcore.memory" 1308) (.ref 847))
def HG:=dO [en P "__module__" 1321 (.str "postcore.memory" 1308),en P "__firstlineno__" 1325 (.int 525 1324),en P "__init__" 1359 (.ref 848),en P "__static_attributes__" 1374 (.ref 849),en P "__dict__" 1376 (.ref 852),en P "__weakref__" 1378 (.ref 853),en P "__doc__" 1379 .none] 4
def GJ:=kO "Limits" [.type "object"] [.ref 851, .type "object"] 850 "Limits" [] [none,none,some (.str "Limits" 1314),some (.str "Limits" 1322),some (.builtin "object.__new__"),some (.bool true)]
def I6:=cK "__init__" 1429 "BodyMaker.__init__" 551 2 0 0 3 884 true 885 .none (.ref 886) (.ref 887) (.ref 888) 1434 1435
def FP:=uM 58 0 "BodyMaker.__init__" 3 "postcore.memory" 1308 889
def Gs:=dO [en P "__module__" 1424 (.str "postcore.memory" 1308),en P "__firstlineno__" 1428 (.int 549 1427),en P "__init__" 1436 (.ref 890),en P "level" 1444 (.ref 898),en P "body_level" 1451 (.ref 905),en P "take_room" 1459 (.ref 912),en P "check_room" 1467 (.ref 919),en P "make_text" 1475 (.ref 926),en P "text_of_octets" 1483 (.ref 933),en P "make_row" 1491 (.ref 940),en P "make_dict" 1499 (.ref 947),en P "__static_attributes__" 1510 (.ref 948),en P "__dict__" 1512 (.ref 951),en P "__weakref__" 1514 (.ref 952),en P "__doc__" 1515 .none] 4
def HA:=kO "BodyMaker" [.type "object"] [.ref 950, .type "object"] 949 "BodyMaker" [.ref 1055] [none,none,some (.str "BodyMaker" 1417),some (.str "BodyMaker" 1425),some (.builtin "object.__new__"),some (.bool true)]
def BL:=dO [en P "__module__" 1525 (.str "postcore.memory" 1308),en P "__firstlineno__" 1529 (.int 587 1528),en P "is_elder" 1537 (.ref 968),en P "check_holds" 1546 (.ref 975),en P "put_item" 1556 (.ref 982),en P "put_items" 1566 (.ref 989),en P "put_octet" 1576 (.ref 996),en P "put_octets" 1586 (.ref 1003),en P "grow" 1594 (.ref 1010),en P "check_entries" 1603 (.ref 1017),en P "check_key" 1611 (.ref 1024),en P "put_entry" 1621 (.ref 1031),en P "drop_entry" 1630 (.ref 1038),en P "set_access" 1639 (.ref 1045),en P "note_state" 1647 (.ref 1052),en P "__static_attributes__" 1648 (.ref 1053),en P "__doc__" 1649 .none] 2
def Ct:=kO "BodyChanger" [.ref 950] [.ref 1055, .ref 950, .type "object"] 1054 "BodyChanger" [.ref 1153] [some (.ref 955),none,some (.str "BodyChanger" 1518),some (.str "BodyChanger" 1526),some (.builtin "object.__new__"),some (.bool true)]
def BX:=dO [en P "__module__" 1659 (.str "postcore.memory" 1308),en P "__firstlineno__" 1663 (.int 627 1662),en P "save" 1671 (.ref 1072),en P "place_of_save" 1681 (.ref 1079),en P "is_saved" 1689 (.ref 1086),en P "note_of" 1697 (.ref 1093),en P "sure_place" 1706 (.ref 1100),en P "newer_than" 1715 (.ref 1107),en P "restore" 1730 (.ref 1114),en P "settle_costs" 1742 (.ref 1121),en P "status" 1749 (.ref 1128),en P "collect" 1757 (.ref 1135),en P "reclaim" 1766 (.ref 1143),en P "journal_things" 1773 (.ref 1150),en P "__static_attributes__" 1778 (.ref 1151),en P "__doc__" 1779 .none] 2
def CJ:=kO "Memory" [.ref 1055] [.ref 1153, .ref 1055, .ref 950, .type "object"] 1152 "Memory" [] [some (.ref 1058),none,some (.str "Memory" 1652),some (.str "Memory" 1660),some (.builtin "object.__new__"),some (.bool true)]
def BK:=cK "__init__" 1808 "Stack.__init__" 715 2 0 0 3 1170 true 1171 .none (.ref 1172) (.ref 1173) (.ref 1174) 1813 1814
def Bw:=uM 63 0 "Stack.__init__" 3 "postcore.stacks" 1794 1175
def Cz:=cK "push" 1824 "Stack.push" 723 2 0 0 3 1185 true 1186 .none (.ref 1187) (.ref 1188) (.ref 1189) 1829 1830
def CL:=uM 63 2 "Stack.push" 3 "postcore.stacks" 1794 1190
def C0:=dO [en P "__module__" 1803 (.str "postcore.stacks" 1794),en P "__firstlineno__" 1807 (.int 713 1806),en P "__init__" 1815 (.ref 1176),en P "many" 1823 (.ref 1184),en P "push" 1831 (.ref 1191),en P "push_all" 1839 (.ref 1198),en P "pop" 1846 (.ref 1205),en P "at" 1854 (.ref 1212),en P "top" 1862 (.ref 1219),en P "take" 1871 (.ref 1226),en P "cut" 1879 (.ref 1233),en P "rolled" 1888 (.ref 1240),en P "to_mark" 1895 (.ref 1247),en P "snapshot" 1902 (.ref 1254),en P "put_back" 1910 (.ref 1261),en P "__static_attributes__" 1913 (.ref 1262),en P "__dict__" 1915 (.ref 1265),en P "__weakref__" 1917 (.ref 1266),en P "__doc__" 1918 .none] 4
def CQ:=kO "Stack" [.type "object"] [.ref 1264, .type "object"] 1263 "Stack" [] [none,none,some (.str "Stack" 1796),some (.str "Stack" 1804),some (.builtin "object.__new__"),some (.bool true)]
def CT:=cK "_law_deck" 1923 "_law_deck" 770 1 0 0 3 1269 true 1270 .none .none .none (.ref 1271) 1926 1927
def CO:=uA 65 "_law_deck" 3 "law_pq0919_01" 1921 1272
def Bz:=cK "_law_draw" 1929 "_law_draw" 775 2 0 0 3 1274 true 1275 .none (.ref 1276) (.ref 1277) (.ref 1278) 1934 1935
def BN:=uA 66 "_law_draw" 3 "law_pq0919_01" 1921 1279
def Cr:=cK "_law_item" 1937 "_law_item" 780 2 0 0 3 1281 true 1282 .none (.ref 1283) (.ref 1284) (.ref 1285) 1946 1947
def C8:=uA 67 "_law_item" 3 "law_pq0919_01" 1921 1286
def CM:=cK "_law_sheet" 1949 "_law_sheet" 787 1 0 0 3 1288 true 1289 .none .none .none (.ref 1290) 1952 1953
def Ce:=uA 68 "_law_sheet" 3 "law_pq0919_01" 1921 1291
def CN:=cK "_law_copied" 1955 "_law_copied" 799 1 0 0 3 1293 true 1294 .none .none .none (.ref 1295) 1958 1959
def BF:=uA 69 "_law_copied" 3 "law_pq0919_01" 1921 1296
def C6:=cK "_law_turned" 1961 "_law_turned" 804 2 0 0 3 1298 true 1299 .none .none .none (.ref 1300) 1964 1965
def CU:=uA 70 "_law_turned" 3 "law_pq0919_01" 1921 1301
def BZ:=cK "_law_things" 1967 "_law_things" 827 2 0 0 3 1303 true 1304 .none (.ref 1305) (.ref 1306) (.ref 1307) 1974 1975
def Ca:=uA 71 "_law_things" 3 "law_pq0919_01" 1921 1308
def CR:=cK "_law_machine" 1977 "_law_machine" 837 3 0 0 3 1310 true 1311 .none (.ref 1312) (.ref 1313) (.ref 1314) 1991 1992
def CH:=uA 72 "_law_machine" 3 "law_pq0919_01" 1921 1315
def Cy:=cK "_law_first_unlike" 1994 "_law_first_unlike" 855 2 0 0 3 1317 true 1318 .none .none .none (.ref 1319) 1997 1998
def Cc:=uA 73 "_law_first_unlike" 3 "law_pq0919_01" 1921 1320
def CD:=cK "law" 2000 "law" 879 1 0 0 3 1322 true 1323 .none (.ref 1324) (.ref 1325) (.ref 1326) 2013 2014
def CC:=uA 74 "law" 3 "law_pq0919_01" 1921 1327
end
noncomputable def e3 (P:Params):List DictEntry:= [en P "__doc__" 166 .none,en P "__package__" 167 .none,en P "__loader__" 168 (.builtin "__main__.__loader__#opaque"),en P "__spec__" 169 .none,en P "__annotations__" 170 (.ref 6),en P "__builtins__" 171 (.ref 4),en P "__file__" 173 (.str "/claim/cut.py" 172),en P "__cached__" 174 .none,en P "_wall" 193 (.ref 21),en P "GRAIN" 197 (.int 1000000 196),en P "PostError" 226 (.ref 39),en P "PsError" 242 (.ref 52),en P "Quit" 258 (.ref 64),en P "BadText" 274 (.ref 76),en P "octets_of" 280 (.ref 83),en P "hex_octets" 290 (.ref 90),en P "decimal_octets" 299 (.ref 97),en P "RUN_ONLY" 303 (.int 1 302),en P "READ_ONLY" 305 (.int 2 304),en P "UNLIMITED" 307 (.int 3 306),en P "Thing" 342 (.ref 115),en P "Text" 377 (.ref 136),en P "Row" 412 (.ref 157),en P "DictBody" 463 (.ref 190),en P "Span" 496 (.ref 211),en P "boolean" 503 (.ref 222),en P "name" 511 (.ref 230),en P "is_number" 518 (.ref 237),en P "in_millionths" 525 (.ref 244),en P "is_in_array" 532 (.ref 251),en P "body_of" 539 (.ref 258),en P "access_of" 546 (.ref 265),en P "can_read" 553 (.ref 272),en P "can_run" 560 (.ref 279),en P "check_part" 569 (.ref 286),en P "part_of" 578 (.ref 293),en P "with_span" 586 (.ref 300),en P "is_text_span" 593 (.ref 307),en P "item" 601 (.ref 314),en P "octets_of_span" 608 (.ref 321),en P "thing_octets" 615 (.ref 328),en P "key_of" 622 (.ref 335),en P "BODY_KINDS" 632 (.ref 336),en P "flat_key" 640 (.ref 343),en P "MOST_DEPTH" 644 (.int 60 643),en P "flat_value_octets" 650 (.ref 348),en P "OperandTeller" 709 (.ref 384),en P "operand_octets" 716 (.ref 394),en P "OctetSource" 773 (.ref 434),en P "FIRST_SEED" 777 (.int 1 776),en P "Frame" 836 (.ref 483),en P "ProcFrame" 888 (.ref 525),en P "SourceFrame" 940 (.ref 564),en P "ThingFrame" 988 (.ref 604),en P "machine_lookup" 997 (.ref 613),en P "MachineCore" 1307 (.ref 829),en P "MOST_COST" 1313 (.int 16777216 1312),en P "Limits" 1381 (.ref 851),en P "VmSave" 1416 (.ref 872),en P "BodyMaker" 1517 (.ref 950),en P "BodyChanger" 1651 (.ref 1055),en P "Memory" 1781 (.ref 1153),en P "memory_put_back" 1793 (.ref 1162),en P "Stack" 1920 (.ref 1264),en P "_law_deck" 1928 (.ref 1273),en P "_law_draw" 1936 (.ref 1280),en P "_law_item" 1948 (.ref 1287),en P "_law_sheet" 1954 (.ref 1292),en P "_law_copied" 1960 (.ref 1297),en P "_law_turned" 1966 (.ref 1302),en P "_law_things" 1976 (.ref 1309),en P "_law_machine" 1993 (.ref 1316),en P "_law_first_unlike" 1999 (.ref 1321),en P "law" 2015 (.ref 1328)]
noncomputable def dq:List Value:= [.int 1 0, .int 0 0, .ref 20, .int 6 0, .int 0 0, .ref 27, .int 10 0, .int 0 0, .ref 48, .int 12 0, .int 0 0, .ref 60, .int 14 0, .int 0 0, .ref 72, .int 16 0, .int 0 0, .ref 82, .int 22 0, .int 0 0, .ref 89, .int 29 0, .int 0 0, .ref 96, .int 43 0, .int 0 0, .ref 103, .int 50 0, .int 0 0, .ref 125, .int 57 0, .int 0 0, .ref 146, .int 64 0, .int 0 0, .ref 167, .int 79 0, .int 0 0, .ref 200, .int 85 0, .int 0 0, .ref 221, .int 87 0, .int 0 0, .ref 229, .int 89 0, .int 0 0, .ref 236, .int 91 0, .int 0 0, .ref 243, .int 97 0, .int 0 0, .ref 250, .int 99 0, .int 0 0, .ref 257, .int 103 0, .int 0 0, .ref 264, .int 105 0, .int 0 0, .ref 271, .int 107 0, .int 0 0, .ref 278, .int 109 0, .int 0 0, .ref 285, .int 112 0, .int 0 0, .ref 292, .int 115 0, .int 0 0, .ref 299, .int 117 0, .int 0 0, .ref 306, .int 119 0, .int 0 0, .ref 313, .int 124 0, .int 0 0, .ref 320, .int 126 0, .int 0 0, .ref 327, .int 134 0, .int 0 0, .ref 334, .int 150 0, .int 0 0, .ref 342, .int 157 0, .int 0 0, .ref 347, .int 169 0, .int 0 0, .ref 354, .int 204 0, .int 0 0, .ref 393, .int 208 0, .int 0 0, .ref 400, .int 232 0, .int 0 0, .ref 444, .int 248 0, .int 0 0, .ref 493, .int 269 0, .int 0 0, .ref 533, .int 293 0, .int 0 0, .ref 572, .int 308 0, .int 0 0, .ref 612, .int 313 0, .int 0 0, .ref 619, .int 525 0, .int 0 0, .ref 839, .int 542 0, .int 0 0, .ref 861, .int 549 0, .int 0 0, .ref 882, .int 587 0, .int 0 0, .ref 960, .int 627 0, .int 0 0, .ref 1063, .int 692 0, .int 0 0, .ref 1161, .int 713 0, .int 0 0, .ref 1168, .int 770 0, .int 0 0, .ref 1272, .int 775 0, .int 0 0, .ref 1279, .int 780 0, .int 0 0, .ref 1286, .int 787 0, .int 0 0, .ref 1291, .int 799 0, .int 0 0, .ref 1296, .int 804 0, .int 0 0, .ref 1301, .int 827 0, .int 0 0, .ref 1308, .int 837 0, .int 0 0, .ref 1315, .int 855 0, .int 0 0, .ref 1320, .int 879 0, .int 0 0, .ref 1327]
noncomputable def O (P:Params):List Obj:= [boot_o_0 P,boot_o_1 P,o2 P,(tO []),boot_o_4 P,boot_o_5 P,boot_o_6 P,boot_o_7 P,boot_o_8 P,boot_o_9 P,boot_o_10 P,Pc,(tO []),OT,OW,(tO []),(fO []),(tO [.str "k" 190]),(tO []),(oA 0 "_wall" 0),(cK "_wall" 187 "_wall" 1 1 0 0 3 15 true 16 .none (.ref 17) (.ref 18) (.ref 19) 191 192),(uA 0 "_wall" 3 "__main__" 164 20),(tO [.type "Exception"]),(tF "builtin_function_or_method" [.builtin "type.__prepare__", .type "type"]),(dO [en P "__module__" 205 (.str "postcore.base" 194),en P "__qualname__" 207 (.str "PostError" 206),en P "__firstlineno__" 209 (.int 6 208),en P "__init__" 217 (.ref 36),en P "__static_attributes__" 219 (.ref 37)] 5),(tO []),(fO [.int 8 0, .int 4 0, .ref 35]),(cK "PostError" 200 "PostError" 6 0 0 0 0 25 false 26 .none .none .none .none 203 204),(rO [some (.ref 27),some (.ref 3),some (.ref 24),none,some (.str "postcore.base" 194),none,some (.ref 0)]),(tO [.none]),(tO []),(fO []),(tO [.str "self" 213, .str "told" 214]),(tO []),(oM 3 0 "PostError.__init__" 0),(cK "__init__" 210 "PostError.__init__" 8 2 0 0 3 30 true 31 .none (.ref 32) (.ref 33) (.ref 34) 215 216),(uO (fD (sM 3 0) "PostError.__init__" 3 (.ref 29) .none (.str "postcore.base" 194) (.ref 35))),(tO [.str "told" 218]),(dO [en P "__module__" 205 (.str "postcore.base" 194),en P "__firstlineno__" 209 (.int 6 208),en P "__init__" 217 (.ref 36),en P "__static_attributes__" 219 (.ref 37),en P "__weakref__" 221 (.ref 40),en P "__doc__" 222 .none] 3),(kO "PostError" [.type "Exception"] [.ref 39, .type "Exception", .type "BaseException", .type "object"] 38 "PostError" [.ref 52, .ref 64, .ref 76] [some (.ref 22),none,some (.str "PostError" 198),some (.str "PostError" 206),some (.builtin "Exception.__new__"),some (.bool true)]),(tF "getset_descriptor" [.str "__weakref__" 220, .ref 39, .builtin "ExceptionGroup.__weakref__", .none]),(tF "super" [.ref 39, .ref 39, .ref 39]),(tF "builtin_function_or_method" [.builtin "object.__init_subclass__", .ref 39]),(tO [.ref 39]),(tF "builtin_function_or_method" [.builtin "type.__prepare__", .type "type"]),(dO [en P "__module__" 234 (.str "postcore.base" 194),en P "__qualname__" 236 (.str "PsError" 235),en P "__firstlineno__" 238 (.int 10 237),en P "__static_attributes__" 239 (.ref 50)] 4),(tO []),(fO []),(cK "PsError" 229 "PsError" 10 0 0 0 0 46 false 47 .none .none .none .none 232 233),(rO [some (.ref 48),some (.ref 3),some (.ref 45),none,some (.str "postcore.base" 194),none,some (.ref 0)]),(tO []),(dO [en P "__module__" 234 (.str "postcore.base" 194),en P "__firstlineno__" 238 (.int 10 237),en P "__static_attributes__" 239 (.ref 50),en P "__doc__" 240 .none] 2),(kO "PsError" [.ref 39] [.ref 52, .ref 39, .type "Exception", .type "BaseException", .type "object"] 51 "PsError" [] [some (.ref 43),none,some (.str "PsError" 227),some (.str "PsError" 235),some (.builtin "Exception.__new__"),some (.bool true)]),(tF "super" [.ref 52, .ref 52, .ref 52]),(tF "builtin_function_or_method" [.builtin "object.__init_subclass__", .ref 52]),(tO [.ref 39]),(tF "builtin_function_or_method" [.builtin "type.__prepare__", .type "type"]),(dO [en P "__module__" 250 (.str "postcore.base" 194),en P "__qualname__" 252 (.str "Quit" 251),en P "__firstlineno__" 254 (.int 12 253),en P "__static_attributes__" 255 (.ref 62)] 4),(tO []),(fO []),(cK "Quit" 245 "Quit" 12 0 0 0 0 58 false 59 .none .none .none .none 248 249),(rO [some (.ref 60),some (.ref 3),some (.ref 57),none,some (.str "postcore.base" 194),none,some (.ref 0)]),(tO []),(dO [en P "__module__" 250 (.str "postcore.base" 194),en P "__firstlineno__" 254 (.int 12 253),en P "__static_attributes__" 255 (.ref 62),en P "__doc__" 256 .none] 2),(kO "Quit" [.ref 39] [.ref 64, .ref 39, .type "Exception", .type "BaseException", .type "object"] 63 "Quit" [] [some (.ref 55),none,some (.str "Quit" 243),some (.str "Quit" 251),some (.builtin "Exception.__new__"),some (.bool true)]),(tF "super" [.ref 64, .ref 64, .ref 64]),(tF "builtin_function_or_method" [.builtin "object.__init_subclass__", .ref 64]),(tO [.ref 39]),(tF "builtin_function_or_method" [.builtin "type.__prepare__", .type "type"]),(dO [en P "__module__" 266 (.str "postcore.base" 194),en P "__qualname__" 268 (.str "BadText" 267),en P "__firstlineno__" 270 (.int 14 269),en P "__static_attributes__" 271 (.ref 74)] 4),(tO []),(fO []),(cK "BadText" 261 "BadText" 14 0 0 0 0 70 false 71 .none .none .none .none 264 265),(rO [some (.ref 72),some (.ref 3),some (.ref 69),none,some (.str "postcore.base" 194),none,some (.ref 0)]),(tO []),(dO [en P "__module__" 266 (.str "postcore.base" 194),en P "__firstlineno__" 270 (.int 14 269),en P "__static_attributes__" 271 (.ref 74),en P "__doc__" 272 .none] 2),(kO "BadText" [.ref 39] [.ref 76, .ref 39, .type "Exception", .type "BaseException", .type "object"] 75 "BadText" [] [some (.ref 67),none,some (.str "BadText" 259),some (.str "BadText" 267),some (.builtin "Exception.__new__"),some (.bool true)]),(tF "super" [.ref 76, .ref 76, .ref 76]),(tF "builtin_function_or_method" [.builtin "object.__init_subclass__", .ref 76]),(tO []),(fO []),(oA 7 "octets_of" 0),Ph,Pb,(tO []),(fO []),(tO [.str "octets" 284, .str "signs" 285, .str "found" 286, .str "octet" 287]),(tO []),(oA 8 "hex_octets" 0),OY,Po,(tO []),(fO []),(tO [.str "number" 294, .str "rest" 295, .str "found" 296]),(tO []),(oA 9 "decimal_octets" 0),OH,P0,(tO []),(tF "builtin_function_or_method" [.builtin "type.__prepare__", .type "type"]),(dO [en P "__module__" 315 (.str "postcore.objects" 300),en P "__qualname__" 317 (.str "Thing" 316),en P "__firstlineno__" 319 (.int 43 318),en P "__init__" 330 (.ref 112),en P "__static_attributes__" 335 (.ref 113)] 5),(tO []),(fO [.int 45 0, .int 4 0, .ref 111]),(cK "Thing" 310 "Thing" 43 0 0 0 0 101 false 102 .none .none .none .none 313 314),(rO [some (.ref 103),some (.ref 3),some (.ref 100),none,some (.str "postcore.objects" 300),none,some (.ref 0)]),GB,(tO []),(fO []),(tO [.str "self" 323, .str "kind" 324, .str "value" 325, .str "is_exec" 326, .str "access" 327]),(tO []),(oM 14 0 "Thing.__init__" 0),II,FU,(tO [.str "access" 331, .str "is_exec" 332, .str "kind" 333, .str "value" 334]),FN P,H0,(tF "getset_descriptor" [.str "__dict__" 336, .ref 115, .builtin "function.__dict__", .builtin "function.__dict__#set"]),(tF "getset_descriptor" [.str "__weakref__" 338, .ref 115, .builtin "ExceptionGroup.__weakref__", .none]),(tF "super" [.ref 115, .ref 115, .ref 115]),(tF "builtin_function_or_method" [.builtin "object.__init_subclass__", .ref 115]),(tO []),(tF "builtin_function_or_method" [.builtin "type.__prepare__", .type "type"]),(dO [en P "__module__" 350 (.str "postcore.objects" 300),en P "__qualname__" 352 (.str "Text" 351),en P "__firstlineno__" 354 (.int 50 353),en P "__init__" 365 (.ref 133),en P "__static_attributes__" 370 (.ref 134)] 5),(tO []),(fO [.int 52 0, .int 4 0, .ref 132]),(cK "Text" 345 "Text" 50 0 0 0 0 123 false 124 .none .none .none .none 348 349),(rO [some (.ref 125),some (.ref 3),some (.ref 122),none,some (.str "postcore.objects" 300),none,some (.ref 0)]),(tO []),(fO []),(tO [.str "self" 358, .str "number" 359, .str "octets" 360, .str "is_global" 361, .str "level" 362]),(tO []),(oM 15 0 "Text.__init__" 0),HV,Gw,(tO [.str "is_global" 366, .str "level" 367, .str "number" 368, .str "octets" 369]),Ic P,Hn,(tF "getset_descriptor" [.str "__dict__" 371, .ref 136, .builtin "function.__dict__", .builtin "function.__dict__#set"]),(tF "getset_descriptor" [.str "__weakref__" 373, .ref 136, .builtin "ExceptionGroup.__weakref__", .none]),(tF "super" [.ref 136, .ref 136, .ref 136]),(tF "builtin_function_or_method" [.builtin "object.__init_subclass__", .ref 136]),(tO []),(tF "builtin_function_or_method" [.builtin "type.__prepare__", .type "type"]),(dO [en P "__module__" 385 (.str "postcore.objects" 300),en P "__qualname__" 387 (.str "Row" 386),en P "__firstlineno__" 389 (.int 57 388),en P "__init__" 400 (.ref 154),en P "__static_attributes__" 405 (.ref 155)] 5),(tO []),(fO [.int 59 0, .int 4 0, .ref 153]),(cK "Row" 380 "Row" 57 0 0 0 0 144 false 145 .none .none .none .none 383 384),(rO [some (.ref 146),some (.ref 3),some (.ref 143),none,some (.str "postcore.objects" 300),none,some (.ref 0)]),(tO []),(fO []),(tO [.str "self" 393, .str "number" 394, .str "things" 395, .str "is_global" 396, .str "level" 397]),(tO []),(oM 16 0 "Row.__init__" 0),Il,HN,(tO [.str "is_global" 401, .str "level" 402, .str "number" 403, .str "things" 404]),Hx P,HP,(tF "getset_descriptor" [.str "__dict__" 406, .ref 157, .builtin "function.__dict__", .builtin "function.__dict__#set"]),(tF "getset_descriptor" [.str "__weakref__" 408, .ref 157, .builtin "ExceptionGroup.__weakref__", .none]),(tF "super" [.ref 157, .ref 157, .ref 157]),(tF "builtin_function_or_method" [.builtin "object.__init_subclass__", .ref 157]),(tO []),(tF "builtin_function_or_method" [.builtin "type.__prepare__", .type "type"]),(dO [en P "__module__" 420 (.str "postcore.objects" 300),en P "__qualname__" 422 (.str "DictBody" 421),en P "__firstlineno__" 424 (.int 64 423),en P "__init__" 435 (.ref 175),en P "get" 443 (.ref 182),en P "pairs" 449 (.ref 187),en P "__static_attributes__" 456 (.ref 188)] 7),(tO []),(fO [.int 66 0, .int 4 0, .ref 174, .int 74 0, .int 4 0, .ref 181, .int 77 0, .int 4 0, .ref 186]),(cK "DictBody" 415 "DictBody" 64 0 0 0 0 165 false 166 .none .none .none .none 418 419),(rO [some (.ref 167),some (.ref 3),some (.ref 164),none,some (.str "postcore.objects" 300),none,some (.ref 0)]),(tO []),(fO []),(tO [.str "self" 428, .str "number" 429, .str "most" 430, .str "is_global" 431, .str "level" 432]),(tO []),(oM 17 0 "DictBody.__init__" 0),IT,Fv,(tO []),(fO []),(tO [.str "self" 439, .str "key" 440]),(tO []),(oM 17 1 "DictBody.get" 0),(cK "get" 436 "DictBody.get" 74 2 0 0 3 176 true 177 .none (.ref 178) (.ref 179) (.ref 180) 441 442),(uM 17 1 "DictBody.get" 3 "postcore.objects" 300 181),(tO []),(fO []),(oM 17 2 "DictBody.pairs" 0),GI,HD,(tO [.str "access" 450, .str "entries" 451, .str "is_global" 452, .str "level" 453, .str "most" 454, .str "number" 455]),Iw P,GS,(tF "getset_descriptor" [.str "__dict__" 457, .ref 190, .builtin "function.__dict__", .builtin "function.__dict__#set"]),(tF "getset_descriptor" [.str "__weakref__" 459, .ref 190, .builtin "ExceptionGroup.__weakref__", .none]),(tF "super" [.ref 190, .ref 190, .ref 190]),(tF "builtin_function_or_method" [.builtin "object.__init_subclass__", .ref 190]),(tO []),(tF "builtin_function_or_method" [.builtin "type.__prepare__", .type "type"]),(dO [en P "__module__" 471 (.str "postcore.objects" 300),en P "__qualname__" 473 (.str "Span" 472),en P "__firstlineno__" 475 (.int 79 474),en P "__init__" 485 (.ref 208),en P "__static_attributes__" 489 (.ref 209)] 5),(tO []),(fO [.int 81 0, .int 4 0, .ref 207]),(cK "Span" 466 "Span" 79 0 0 0 0 198 false 199 .none .none .none .none 469 470),(rO [some (.ref 200),some (.ref 3),some (.ref 197),none,some (.str "postcore.objects" 300),none,some (.ref 0)]),(tO []),(fO []),(tO [.str "self" 479, .str "body" 480, .str "start" 481, .str "many" 482]),(tO []),(oM 18 0 "Span.__init__" 0),Hy,FF,(tO [.str "body" 486, .str "many" 487, .str "start" 488]),Fx P,I9,(tF "getset_descriptor" [.str "__dict__" 490, .ref 211, .builtin "function.__dict__", .builtin "function.__dict__#set"]),(tF "getset_descriptor" [.str "__weakref__" 492, .ref 211, .builtin "ExceptionGroup.__weakref__", .none]),(tF "super" [.ref 211, .ref 211, .ref 211]),(tF "builtin_function_or_method" [.builtin "object.__init_subclass__", .ref 211]),(tO []),(fO []),(tO [.str "truth" 500]),(tO []),(oA 19 "boolean" 0),(cK "boolean" 497 "boolean" 85 1 0 0 3 216 true 217 .none (.ref 218) (.ref 219) (.ref 220) 501 502),(uA 19 "boolean" 3 "postcore.objects" 300 221),(tO [.bool false]),(tO []),(fO []),(tO [.str "octets" 507, .str "is_exec" 508]),(tO []),(oA 20 "name" 0),(cK "name" 504 "name" 87 2 0 0 3 224 true 225 .none (.ref 226) (.ref 227) (.ref 228) 509 510),(uO (fD (sA 20) "name" 3 (.ref 223) .none (.str "postcore.objects" 300) (.ref 229))),(tO []),(fO []),(tO [.str "thing" 515]),(tO []),(oA 21 "is_number" 0),(cK "is_number" 512 "is_number" 89 1 0 0 3 231 true 232 .none (.ref 233) (.ref 234) (.ref 235) 516 517),(uA 21 "is_number" 3 "postcore.objects" 300 236),(tO []),(fO []),(tO [.str "thing" 522]),(tO []),(oA 22 "in_millionths" 0),(cK "in_millionths" 519 "in_millionths" 91 1 0 0 3 238 true 239 .none (.ref 240) (.ref 241) (.ref 242) 523 524),(uA 22 "in_millionths" 3 "postcore.objects" 300 243),(tO []),(fO []),(tO [.str "thing" 529]),(tO []),(oA 23 "is_in_array" 0),Hk,Ga,(tO []),(fO []),(tO [.str "thing" 536]),(tO []),(oA 24 "body_of" 0),HZ,Gz,(tO []),(fO []),(tO [.str "thing" 543]),(tO []),(oA 25 "access_of" 0),Fh,FY,(tO []),(fO []),(tO [.str "thing" 550]),(tO []),(oA 26 "can_read" 0),(cK "can_read" 547 "can_read" 105 1 0 0 3 266 true 267 .none (.ref 268) (.ref 269) (.ref 270) 551 552),(uA 26 "can_read" 3 "postcore.objects" 300 271),(tO []),(fO []),(tO [.str "thing" 557]),(tO []),(oA 27 "can_run" 0),(cK "can_run" 554 "can_run" 107 1 0 0 3 273 true 274 .none (.ref 275) (.ref 276) (.ref 277) 558 559),(uA 27 "can_run" 3 "postcore.objects" 300 278),(tO []),(fO []),(tO [.str "span" 564, .str "start" 565, .str "many" 566]),(tO []),(oA 28 "check_part" 0),(cK "check_part" 561 "check_part" 109 3 0 0 3 280 true 281 .none (.ref 282) (.ref 283) (.ref 284) 567 568),(uA 28 "check_part" 3 "postcore.objects" 300 285),(tO []),(fO []),(tO [.str "span" 573, .str "start" 574, .str "many" 575]),(tO []),(oA 29 "part_of" 0),(cK "part_of" 570 "part_of" 112 3 0 0 3 287 true 288 .none (.ref 289) (.ref 290) (.ref 291) 576 577),(uA 29 "part_of" 3 "postcore.objects" 300 292),(tO []),(fO []),(tO [.str "thing" 582, .str "span" 583]),(tO []),(oA 30 "with_span" 0),(cK "with_span" 579 "with_span" 115 2 0 0 3 294 true 295 .none (.ref 296) (.ref 297) (.ref 298) 584 585),(uA 30 "with_span" 3 "postcore.objects" 300 299),(tO []),(fO []),(tO [.str "span" 590]),(tO []),(oA 31 "is_text_span" 0),(cK "is_text_span" 587 "is_text_span" 117 1 0 0 3 301 true 302 .none (.ref 303) (.ref 304) (.ref 305) 591 592),(uA 31 "is_text_span" 3 "postcore.objects" 300 306),(tO []),(fO []),(tO [.str "span" 597, .str "at" 598]),(tO []),(oA 32 "item" 0),(cK "item" 594 "item" 119 2 0 0 3 308 true 309 .none (.ref 310) (.ref 311) (.ref 312) 599 600),(uA 32 "item" 3 "postcore.objects" 300 313),(tO []),(fO []),(tO [.str "span" 605]),(tO []),(oA 33 "octets_of_span" 0),(cK "octets_of_span" 602 "octets_of_span" 124 1 0 0 3 315 true 316 .none (.ref 317) (.ref 318) (.ref 319) 606 607),(uA 33 "octets_of_span" 3 "postcore.objects" 300 320),(tO []),(fO []),(tO [.str "thing" 612]),(tO []),(oA 34 "thing_octets" 0),(cK "thing_octets" 609 "thing_octets" 126 1 0 0 3 322 true 323 .none (.ref 324) (.ref 325) (.ref 326) 613 614),(uA 34 "thing_octets" 3 "postcore.objects" 300 327),(tO []),(fO []),(tO [.str "thing" 619]),(tO []),(oA 35 "key_of" 0),(cK "key_of" 616 "key_of" 134 1 0 0 3 329 true 330 .none (.ref 331) (.ref 332) (.ref 333) 620 621),(uA 35 "key_of" 3 "postcore.objects" 300 334),Ag,(tO []),(fO []),(tO [.str "thing" 636, .str "body" 637]),(tO []),(oA 38 "flat_key" 0),GC,Gk,(tO []),(fO []),(oA 41 "flat_value_octets" 0),Ii,Hf,(tO []),(tF "builtin_function_or_method" [.builtin "type.__prepare__", .type "type"]),(dO [en P "__module__" 658 (.str "postcore.flattexts" 641),en P "__qualname__" 660 (.str "OperandTeller" 659),en P "__firstlineno__" 662 (.int 169 661),en P "__init__" 670 (.ref 362),en P "told" 680 (.ref 369),en P "shared" 692 (.ref 376),en P "within" 698 (.ref 381),en P "__static_attributes__" 702 (.ref 382)] 8),(tO []),(fO [.int 171 0, .int 4 0, .ref 361, .int 176 0, .int 4 0, .ref 368, .int 182 0, .int 4 0, .ref 375, .int 197 0, .int 4 0, .ref 380]),(cK "OperandTeller" 653 "OperandTeller" 169 0 0 0 0 352 false 353 .none .none .none .none 656 657),(rO [some (.ref 354),some (.ref 3),some (.ref 351),none,some (.str "postcore.flattexts" 641),none,some (.ref 0)]),(tO []),(fO []),(tO [.str "self" 666, .str "depth" 667]),(tO []),(oM 42 0 "OperandTeller.__init__" 0),Gm,Ho,(tO []),(fO []),(tO [.str "self" 674, .str "thing" 675, .str "left" 676, .str "sign" 677]),(tO []),(oM 42 1 "OperandTeller.told" 0),HK,GP,(tO []),(fO []),(tO [.str "self" 684, .str "thing" 685, .str "left" 686, .str "key" 687, .str "is_new" 688, .str "ahead" 689]),(tO []),(oM 42 2 "OperandTeller.shared" 0),GQ,H6,(tO []),(fO []),(oM 42 3 "OperandTeller.within" 0),Ip,FE,(tO [.str "depth" 699, .str "known" 700, .str "left_of" 701]),Ig P,Hq,(tF "getset_descriptor" [.str "__dict__" 703, .ref 384, .builtin "function.__dict__", .builtin "function.__dict__#set"]),(tF "getset_descriptor" [.str "__weakref__" 705, .ref 384, .builtin "ExceptionGroup.__weakref__", .none]),(tF "super" [.ref 384, .ref 384, .ref 384]),(tF "builtin_function_or_method" [.builtin "object.__init_subclass__", .ref 384]),IC,(tO []),(fO []),(oA 43 "operand_octets" 0),H5,Gx,(tO []),(tF "builtin_function_or_method" [.builtin "type.__prepare__", .type "type"]),(dO [en P "__module__" 726 (.str "postcore.scanner" 717),en P "__qualname__" 728 (.str "OctetSource" 727),en P "__firstlineno__" 730 (.int 208 729),en P "__init__" 740 (.ref 409),en P "place" 748 (.ref 417),en P "next" 755 (.ref 424),en P "back" 762 (.ref 431),en P "__static_attributes__" 766 (.ref 432)] 8),(tO []),(fO [.int 210 0, .int 4 0, .ref 408, .int 216 0, .int 4 0, .ref 415, .int 219 0, .int 4 0, .ref 423, .int 226 0, .int 4 0, .ref 430]),(cK "OctetSource" 721 "OctetSource" 208 0 0 0 0 398 false 399 .none .none .none .none 724 725),(rO [some (.ref 400),some (.ref 3),some (.ref 397),none,some (.str "postcore.scanner" 717),none,some (.ref 0)]),(tO [.int 0 731]),(tO []),(fO []),(tO [.str "self" 735, .str "octets" 736, .str "at" 737]),(tO []),(oM 45 0 "OctetSource.__init__" 0),(cK "__init__" 732 "OctetSource.__init__" 210 3 0 0 3 403 true 404 .none (.ref 405) (.ref 406) (.ref 407) 738 739),(uO (fD (sM 45 0) "OctetSource.__init__" 3 (.ref 402) .none (.str "postcore.scanner" 717) (.ref 408))),(tO []),(fO []),(tO [.str "self" 744]),(tO []),(oM 45 1 "OctetSource.place" 0),(cK "place" 741 "OctetSource.place" 215 1 0 0 3 410 true 411 .none (.ref 412) (.ref 413) (.ref 414) 745 746),(uM 45 1 "OctetSource.place" 3 "postcore.scanner" 717 415),(tF "property" [.ref 416, .none, .none, .none, .str "place" 748, .bool false]),(tO []),(fO []),(tO [.str "self" 752]),(tO []),(oM 45 2 "OctetSource.next" 0),(cK "next" 749 "OctetSource.next" 219 1 0 0 3 418 true 419 .none (.ref 420) (.ref 421) (.ref 422) 753 754),(uM 45 2 "OctetSource.next" 3 "postcore.scanner" 717 423),(tO []),(fO []),(tO [.str "self" 759]),(tO []),(oM 45 3 "OctetSource.back" 0),(cK "back" 756 "OctetSource.back" 226 1 0 0 3 425 true 426 .none (.ref 427) (.ref 428) (.ref 429) 760 761),(uM 45 3 "OctetSource.back" 3 "postcore.scanner" 717 430),(tO [.str "at" 763, .str "is_told" 764, .str "octets" 765]),(dO [en P "__module__" 726 (.str "postcore.scanner" 717),en P "__firstlineno__" 730 (.int 208 729),en P "__init__" 740 (.ref 409),en P "place" 748 (.ref 417),en P "next" 755 (.ref 424),en P "back" 762 (.ref 431),en P "__static_attributes__" 766 (.ref 432),en P "__dict__" 768 (.ref 435),en P "__weakref__" 770 (.ref 436),en P "__doc__" 771 .none] 4),(kO "OctetSource" [.type "object"] [.ref 434, .type "object"] 433 "OctetSource" [] [none,none,some (.str "OctetSource" 719),some (.str "OctetSource" 727),some (.builtin "object.__new__"),some (.bool true)]),(tF "getset_descriptor" [.str "__dict__" 767, .ref 434, .builtin "function.__dict__", .builtin "function.__dict__#set"]),(tF "getset_descriptor" [.str "__weakref__" 769, .ref 434, .builtin "ExceptionGroup.__weakref__", .none]),(tF "super" [.ref 434, .ref 434, .ref 434]),(tF "builtin_function_or_method" [.builtin "object.__init_subclass__", .ref 434]),(tO []),(tF "builtin_function_or_method" [.builtin "type.__prepare__", .type "type"]),(dO [en P "__module__" 785 (.str "postcore.machine" 774),en P "__qualname__" 787 (.str "Frame" 786),en P "__firstlineno__" 789 (.int 232 788),en P "__init__" 797 (.ref 452),en P "step" 805 (.ref 459),en P "left" 813 (.ref 466),en P "thing" 820 (.ref 473),en P "things" 827 (.ref 480),en P "__static_attributes__" 829 (.ref 481)] 9),(tO []),(fO [.int 234 0, .int 4 0, .ref 451, .int 237 0, .int 4 0, .ref 458, .int 240 0, .int 4 0, .ref 465, .int 243 0, .int 4 0, .ref 472, .int 246 0, .int 4 0, .ref 479]),(cK "Frame" 780 "Frame" 232 0 0 0 0 442 false 443 .none .none .none .none 783 784),(rO [some (.ref 444),some (.ref 3),some (.ref 441),none,some (.str "postcore.machine" 774),none,some (.ref 0)]),(tO []),(fO []),(tO [.str "self" 793, .str "word" 794]),(tO []),(oM 48 0 "Frame.__init__" 0),(cK "__init__" 790 "Frame.__init__" 234 2 0 0 3 446 true 447 .none (.ref 448) (.ref 449) (.ref 450) 795 796),(uM 48 0 "Frame.__init__" 3 "postcore.machine" 774 451),(tO []),(fO []),(tO [.str "self" 801, .str "machine" 802]),(tO []),(oM 48 1 "Frame.step" 0),(cK "step" 798 "Frame.step" 237 2 0 0 3 453 true 454 .none (.ref 455) (.ref 456) (.ref 457) 803 804),(uM 48 1 "Frame.step" 3 "postcore.machine" 774 458),(tO []),(fO []),(tO [.str "self" 809, .str "machine" 810]),(tO []),(oM 48 2 "Frame.left" 0),(cK "left" 806 "Frame.left" 240 2 0 0 3 460 true 461 .none (.ref 462) (.ref 463) (.ref 464) 811 812),(uM 48 2 "Frame.left" 3 "postcore.machine" 774 465),(tO []),(fO []),(tO [.str "self" 817]),(tO []),(oM 48 3 "Frame.thing" 0),(cK "thing" 814 "Frame.thing" 243 1 0 0 3 467 true 468 .none (.ref 469) (.ref 470) (.ref 471) 818 819),(uM 48 3 "Frame.thing" 3 "postcore.machine" 774 472),(tO []),(fO []),(tO [.str "self" 824]),(tO []),(oM 48 4 "Frame.things" 0),(cK "things" 821 "Frame.things" 246 1 0 0 3 474 true 475 .none (.ref 476) (.ref 477) (.ref 478) 825 826),(uM 48 4 "Frame.things" 3 "postcore.machine" 774 479),(tO [.str "word" 828]),(dO [en P "__module__" 785 (.str "postcore.machine" 774),en P "__firstlineno__" 789 (.int 232 788),en P "__init__" 797 (.ref 452),en P "step" 805 (.ref 459),en P "left" 813 (.ref 466),en P "thing" 820 (.ref 473),en P "things" 827 (.ref 480),en P "__static_attributes__" 829 (.ref 481),en P "__dict__" 831 (.ref 484),en P "__weakref__" 833 (.ref 485),en P "__doc__" 834 .none] 4),(kO "Frame" [.type "object"] [.ref 483, .type "object"] 482 "Frame" [.ref 525, .ref 564, .ref 604] [none,none,some (.str "Frame" 778),some (.str "Frame" 786),some (.builtin "object.__new__"),some (.bool true)]),(tF "getset_descriptor" [.str "__dict__" 830, .ref 483, .builtin "function.__dict__", .builtin "function.__dict__#set"]),(tF "getset_descriptor" [.str "__weakref__" 832, .ref 483, .builtin "ExceptionGroup.__weakref__", .none]),(tF "super" [.ref 483, .ref 483, .ref 483]),(tF "builtin_function_or_method" [.builtin "object.__init_subclass__", .ref 483]),(tO [.ref 483]),(tF "builtin_function_or_method" [.builtin "type.__prepare__", .type "type"]),(dO [en P "__module__" 844 (.str "postcore.machine" 774),en P "__qualname__" 846 (.str "ProcFrame" 845),en P "__firstlineno__" 848 (.int 248 847),en P "__init__" 856 (.ref 501),en P "step" 866 (.ref 508),en P "thing" 874 (.ref 515),en P "things" 881 (.ref 522),en P "__static_attributes__" 885 (.ref 523)] 8),(tO []),(fO [.int 250 0, .int 4 0, .ref 500, .int 255 0, .int 4 0, .ref 507, .int 263 0, .int 4 0, .ref 514, .int 267 0, .int 4 0, .ref 521]),(cK "ProcFrame" 839 "ProcFrame" 248 0 0 0 0 491 false 492 .none .none .none .none 842 843),(rO [some (.ref 493),some (.ref 3),some (.ref 490),none,some (.str "postcore.machine" 774),none,some (.ref 0)]),(tO []),(fO []),(tO [.str "self" 852, .str "proc" 853]),(tO []),(oM 49 0 "ProcFrame.__init__" 0),(cK "__init__" 849 "ProcFrame.__init__" 250 2 0 0 3 495 true 496 .none (.ref 497) (.ref 498) (.ref 499) 854 855),(uM 49 0 "ProcFrame.__init__" 3 "postcore.machine" 774 500),(tO []),(fO []),(tO [.str "self" 860, .str "machine" 861, .str "span" 862, .str "here" 863]),(tO []),(oM 49 1 "ProcFrame.step" 0),(cK "step" 857 "ProcFrame.step" 255 2 0 0 3 502 true 503 .none (.ref 504) (.ref 505) (.ref 506) 864 865),(uM 49 1 "ProcFrame.step" 3 "postcore.machine" 774 507),(tO []),(fO []),(tO [.str "self" 870, .str "span" 871]),(tO []),(oM 49 2 "ProcFrame.thing" 0),(cK "thing" 867 "ProcFrame.thing" 263 1 0 0 3 509 true 510 .none (.ref 511) (.ref 512) (.ref 513) 872 873),(uM 49 2 "ProcFrame.thing" 3 "postcore.machine" 774 514),(tO []),(fO []),(tO [.str "self" 878]),(tO []),(oM 49 3 "ProcFrame.things" 0),(cK "things" 875 "ProcFrame.things" 267 1 0 0 3 516 true 517 .none (.ref 518) (.ref 519) (.ref 520) 879 880),(uM 49 3 "ProcFrame.things" 3 "postcore.machine" 774 521),(tO [.str "at" 882, .str "proc" 883, .str "word" 884]),(dO [en P "__module__" 844 (.str "postcore.machine" 774),en P "__firstlineno__" 848 (.int 248 847),en P "__init__" 856 (.ref 501),en P "step" 866 (.ref 508),en P "thing" 874 (.ref 515),en P "things" 881 (.ref 522),en P "__static_attributes__" 885 (.ref 523),en P "__doc__" 886 .none] 2),(kO "ProcFrame" [.ref 483] [.ref 525, .ref 483, .type "object"] 524 "ProcFrame" [] [some (.ref 488),none,some (.str "ProcFrame" 837),some (.str "ProcFrame" 845),some (.builtin "object.__new__"),some (.bool true)]),(tF "super" [.ref 525, .ref 525, .ref 525]),(tF "builtin_function_or_method" [.builtin "object.__init_subclass__", .ref 525]),(tO [.ref 483]),(tF "builtin_function_or_method" [.builtin "type.__prepare__", .type "type"]),(dO [en P "__module__" 896 (.str "postcore.machine" 774),en P "__qualname__" 898 (.str "SourceFrame" 897),en P "__firstlineno__" 900 (.int 269 899),en P "__init__" 910 (.ref 542),en P "step" 919 (.ref 549),en P "thing" 926 (.ref 556),en P "things" 932 (.ref 561),en P "__static_attributes__" 937 (.ref 562)] 8),(tO []),(fO [.int 271 0, .int 4 0, .ref 541, .int 277 0, .int 4 0, .ref 548, .int 286 0, .int 4 0, .ref 555, .int 291 0, .int 4 0, .ref 560]),(cK "SourceFrame" 891 "SourceFrame" 269 0 0 0 0 531 false 532 .none .none .none .none 894 895),(rO [some (.ref 533),some (.ref 3),some (.ref 530),none,some (.str "postcore.machine" 774),none,some (.ref 0)]),(tO [.none, .none]),(tO []),(fO []),(tO [.str "self" 904, .str "source" 905, .str "file" 906, .str "text" 907]),(tO []),(oM 50 0 "SourceFrame.__init__" 0),(cK "__init__" 901 "SourceFrame.__init__" 271 4 0 0 3 536 true 537 .none (.ref 538) (.ref 539) (.ref 540) 908 909),(uO (fD (sM 50 0) "SourceFrame.__init__" 3 (.ref 535) .none (.str "postcore.machine" 774) (.ref 541))),(tO []),(fO []),(tO [.str "self" 914, .str "machine" 915, .str "here" 916]),(tO []),(oM 50 1 "SourceFrame.step" 0),(cK "step" 911 "SourceFrame.step" 277 2 0 0 3 543 true 544 .none (.ref 545) (.ref 546) (.ref 547) 917 918),(uM 50 1 "SourceFrame.step" 3 "postcore.machine" 774 548),(tO []),(fO []),(tO [.str "self" 923]),(tO []),(oM 50 2 "SourceFrame.thing" 0),(cK "thing" 920 "SourceFrame.thing" 286 1 0 0 3 550 true 551 .none (.ref 552) (.ref 553) (.ref 554) 924 925),(uM 50 2 "SourceFrame.thing" 3 "postcore.machine" 774 555),(tO []),(fO []),(oM 50 3 "SourceFrame.things" 0),(cK "things" 927 "SourceFrame.things" 291 1 0 0 3 557 true 558 .none .none .none (.ref 559) 930 931),(uM 50 3 "SourceFrame.things" 3 "postcore.machine" 774 560),(tO [.str "file" 933, .str "source" 934, .str "text" 935, .str "word" 936]),(dO [en P "__module__" 896 (.str "postcore.machine" 774),en P "__firstlineno__" 900 (.int 269 899),en P "__init__" 910 (.ref 542),en P "step" 919 (.ref 549),en P "thing" 926 (.ref 556),en P "things" 932 (.ref 561),en P "__static_attributes__" 937 (.ref 562),en P "__doc__" 938 .none] 2),(kO "SourceFrame" [.ref 483] [.ref 564, .ref 483, .type "object"] 563 "SourceFrame" [] [some (.ref 528),none,some (.str "SourceFrame" 889),some (.str "SourceFrame" 897),some (.builtin "object.__new__"),some (.bool true)]),(tF "super" [.ref 564, .ref 564, .ref 564]),(tF "builtin_function_or_method" [.builtin "object.__init_subclass__", .ref 564]),(tO [.ref 483]),(tF "builtin_function_or_method" [.builtin "type.__prepare__", .type "type"]),(dO [en P "__module__" 948 (.str "postcore.machine" 774),en P "__qualname__" 950 (.str "ThingFrame" 949),en P "__firstlineno__" 952 (.int 293 951),en P "__init__" 960 (.ref 580),en P "step" 968 (.ref 587),en P "thing" 975 (.ref 594),en P "things" 982 (.ref 601),en P "__static_attributes__" 985 (.ref 602)] 8),(tO []),(fO [.int 295 0, .int 4 0, .ref 579, .int 299 0, .int 4 0, .ref 586, .int 303 0, .int 4 0, .ref 593, .int 306 0, .int 4 0, .ref 600]),(cK "ThingFrame" 943 "ThingFrame" 293 0 0 0 0 570 false 571 .none .none .none .none 946 947),(rO [some (.ref 572),some (.ref 3),some (.ref 569),none,some (.str "postcore.machine" 774),none,some (.ref 0)]),(tO []),(fO []),(tO [.str "self" 956, .str "held" 957]),(tO []),(oM 51 0 "ThingFrame.__init__" 0),(cK "__init__" 953 "ThingFrame.__init__" 295 2 0 0 3 574 true 575 .none (.ref 576) (.ref 577) (.ref 578) 958 959),(uM 51 0 "ThingFrame.__init__" 3 "postcore.machine" 774 579),(tO []),(fO []),(tO [.str "self" 964, .str "machine" 965]),(tO []),(oM 51 1 "ThingFrame.step" 0),(cK "step" 961 "ThingFrame.step" 299 2 0 0 3 581 true 582 .none (.ref 583) (.ref 584) (.ref 585) 966 967),(uM 51 1 "ThingFrame.step" 3 "postcore.machine" 774 586),(tO []),(fO []),(tO [.str "self" 972]),(tO []),(oM 51 2 "ThingFrame.thing" 0),(cK "thing" 969 "ThingFrame.thing" 303 1 0 0 3 588 true 589 .none (.ref 590) (.ref 591) (.ref 592) 973 974),(uM 51 2 "ThingFrame.thing" 3 "postcore.machine" 774 593),(tO []),(fO []),(tO [.str "self" 979]),(tO []),(oM 51 3 "ThingFrame.things" 0),(cK "things" 976 "ThingFrame.things" 306 1 0 0 3 595 true 596 .none (.ref 597) (.ref 598) (.ref 599) 980 981),(uM 51 3 "ThingFrame.things" 3 "postcore.machine" 774 600),(tO [.str "held" 983, .str "word" 984]),(dO [en P "__module__" 948 (.str "postcore.machine" 774),en P "__firstlineno__" 952 (.int 293 951),en P "__init__" 960 (.ref 580),en P "step" 968 (.ref 587),en P "thing" 975 (.ref 594),en P "things" 982 (.ref 601),en P "__static_attributes__" 985 (.ref 602),en P "__doc__" 986 .none] 2),(kO "ThingFrame" [.ref 483] [.ref 604, .ref 483, .type "object"] 603 "ThingFrame" [] [some (.ref 567),none,some (.str "ThingFrame" 941),some (.str "ThingFrame" 949),some (.builtin "object.__new__"),some (.bool true)]),(tF "super" [.ref 604, .ref 604, .ref 604]),(tF "builtin_function_or_method" [.builtin "object.__init_subclass__", .ref 604]),(tO []),(fO []),(tO [.str "machine" 992, .str "found" 993]),(tO [.str "machine" 994]),(oA 52 "machine_lookup" 0),(cK "machine_lookup" 989 "machine_lookup" 308 1 0 0 3 607 true 608 .none (.ref 609) (.ref 610) (.ref 611) 995 996),(uA 52 "machine_lookup" 3 "postcore.machine" 774 612),(tO []),(tF "builtin_function_or_method" [.builtin "type.__prepare__", .type "type"]),(dO [en P "__module__" 1005 (.str "postcore.machine" 774),en P "__qualname__" 1007 (.str "MachineCore" 1006),en P "__firstlineno__" 1009 (.int 313 1008),en P "__init__" 1022 (.ref 627),en P "begin" 1035 (.ref 634),en P "push_frame" 1043 (.ref 641),en P "drop" 1052 (.ref 648),en P "cut_frames" 1061 (.ref 655),en P "cut_from" 1070 (.ref 662),en P "frames_row" 1077 (.ref 669),en P "place_of_frame" 1087 (.ref 678),en P "stop" 1095 (.ref 685),en P "trace" 1104 (.ref 692),en P "push_operand" 1112 (.ref 699),en P "met" 1120 (.ref 706),en P "execute" 1128 (.ref 713),en P "run_proc" 1136 (.ref 720),en P "run_source" 1144 (.ref 727),en P "lookup" 1152 (.ref 734),en P "value_of" 1161 (.ref 741),en P "run_name" 1170 (.ref 748),en P "call" 1182 (.ref 755),en P "scanned" 1190 (.ref 762),en P "tell" 1198 (.ref 769),en P "failed" 1208 (.ref 776),en P "step" 1218 (.ref 783),en P "go_on" 1229 (.ref 791),en P "run" 1238 (.ref 798),en P "begun" 1246 (.ref 805),en P "run_down" 1256 (.ref 812),en P "run_thing" 1265 (.ref 819),en P "install" 1273 (.ref 826),en P "__static_attributes__" 1300 (.ref 827)] 33),(tO []),(fO [.int 315 0, .int 4 0, .ref 626, .int 318 0, .int 4 0, .ref 633, .int 346 0, .int 4 0, .ref 640, .int 351 0, .int 4 0, .ref 647, .int 357 0, .int 4 0, .ref 654, .int 362 0, .int 4 0, .ref 661, .int 368 0, .int 4 0, .ref 668, .int 371 0, .int 4 0, .ref 677, .int 379 0, .int 4 0, .ref 684, .int 390 0, .int 4 0, .ref 691, .int 394 0, .int 4 0, .ref 698, .int 398 0, .int 4 0, .ref 705, .int 410 0, .int 4 0, .ref 712, .int 416 0, .int 4 0, .ref 719, .int 422 0, .int 4 0, .ref 726, .int 430 0, .int 4 0, .ref 733, .int 433 0, .int 4 0, .ref 740, .int 439 0, .int 4 0, .ref 747, .int 448 0, .int 4 0, .ref 754, .int 464 0, .int 4 0, .ref 761, .int 467 0, .int 4 0, .ref 768, .int 471 0, .int 4 0, .ref 775, .int 481 0, .int 4 0, .ref 782, .int 495 0, .int 4 0, .ref 790, .int 508 0, .int 4 0, .ref 797, .int 512 0, .int 4 0, .ref 804, .int 515 0, .int 4 0, .ref 811, .int 518 0, .int 4 0, .ref 818, .int 521 0, .int 4 0, .ref 825]),(cK "MachineCore" 1000 "MachineCore" 313 0 0 0 0 617 false 618 .none .none .none .none 1003 1004),(rO [some (.ref 619),some (.ref 3),some (.ref 616),none,some (.str "postcore.machine" 774),none,some (.ref 0)]),(tO []),(fO []),(tO [.str "self" 1013, .str "memory" 1014, .str "operands" 1015, .str "dicts" 1016, .str "scanner" 1017, .str "limits" 1018, .str "disk" 1019]),(tO []),(oM 53 0 "MachineCore.__init__" 0),Iu,IK,(tO []),(fO []),(tO [.str "self" 1026, .str "memory" 1027, .str "operands" 1028, .str "dicts" 1029, .str "scanner" 1030, .str "limits" 1031, .str "disk" 1032]),(tO []),(oM 53 1 "MachineCore.begin" 0),IU,HL,(tO []),(fO []),(tO [.str "self" 1039, .str "frame" 1040]),(tO []),(oM 53 2 "MachineCore.push_frame" 0),(cK "push_frame" 1036 "MachineCore.push_frame" 346 2 0 0 3 635 true 636 .none (.ref 637) (.ref 638) (.ref 639) 1041 1042),(uM 53 2 "MachineCore.push_frame" 3 "postcore.machine" 774 640),(tO []),(fO []),(tO [.str "self" 1047, .str "frame" 1048, .str "at" 1049]),(tO []),(oM 53 3 "MachineCore.drop" 0),(cK "drop" 1044 "MachineCore.drop" 351 2 0 0 3 642 true 643 .none (.ref 644) (.ref 645) (.ref 646) 1050 1051),(uM 53 3 "MachineCore.drop" 3 "postcore.machine" 774 647),(tO []),(fO []),(tO [.str "self" 1056, .str "many" 1057, .str "frame" 1058]),(tO []),(oM 53 4 "MachineCore.cut_frames" 0),(cK "cut_frames" 1053 "MachineCore.cut_frames" 357 2 0 0 3 649 true 650 .none (.ref 651) (.ref 652) (.ref 653) 1059 1060),(uM 53 4 "MachineCore.cut_frames" 3 "postcore.machine" 774 654),(tO []),(fO []),(tO [.str "self" 1065, .str "frame" 1066, .str "at" 1067]),(tO []),(oM 53 5 "MachineCore.cut_from" 0),(cK "cut_from" 1062 "MachineCore.cut_from" 362 2 0 0 3 656 true 657 .none (.ref 658) (.ref 659) (.ref 660) 1068 1069),(uM 53 5 "MachineCore.cut_from" 3 "postcore.machine" 774 661),(tO []),(fO []),(tO [.str "self" 1074]),(tO []),(oM 53 6 "MachineCore.frames_row" 0),(cK "frames_row" 1071 "MachineCore.frames_row" 368 1 0 0 3 663 true 664 .none (.ref 665) (.ref 666) (.ref 667) 1075 1076),(uM 53 6 "MachineCore.frames_row" 3 "postcore.machine" 774 668),(tO []),(tO [.ref 670]),(tO []),(fO []),(tO [.str "self" 1081, .str "words" 1082, .str "barriers" 1083, .str "at" 1084]),(tO []),(oM 53 7 "MachineCore.place_of_frame" 0),(cK "place_of_frame" 1078 "MachineCore.place_of_frame" 371 3 0 0 3 672 true 673 .none (.ref 674) (.ref 675) (.ref 676) 1085 1086),(uO (fD (sM 53 7) "MachineCore.place_of_frame" 3 (.ref 671) .none (.str "postcore.machine" 774) (.ref 677))),(tO []),(fO []),(tO [.str "self" 1091, .str "at" 1092]),(tO []),(oM 53 8 "MachineCore.stop" 0),(cK "stop" 1088 "MachineCore.stop" 379 1 0 0 3 679 true 680 .none (.ref 681) (.ref 682) (.ref 683) 1093 1094),(uM 53 8 "MachineCore.stop" 3 "postcore.machine" 774 684),(tO []),(fO []),(tO [.str "self" 1099, .str "word" 1100, .str "thing" 1101]),(tO []),(oM 53 9 "MachineCore.trace" 0),(cK "trace" 1096 "MachineCore.trace" 390 3 0 0 3 686 true 687 .none (.ref 688) (.ref 689) (.ref 690) 1102 1103),(uM 53 9 "MachineCore.trace" 3 "postcore.machine" 774 691),(tO []),(fO []),(tO [.str "self" 1108, .str "thing" 1109]),(tO []),(oM 53 10 "MachineCore.push_operand" 0),(cK "push_operand" 1105 "MachineCore.push_operand" 394 2 0 0 3 693 true 694 .none (.ref 695) (.ref 696) (.ref 697) 1110 1111),(uM 53 10 "MachineCore.push_operand" 3 "postcore.machine" 774 698),(tO []),(fO []),(tO [.str "self" 1116, .str "thing" 1117]),(tO []),(oM 53 11 "MachineCore.met" 0),(cK "met" 1113 "MachineCore.met" 398 2 0 0 3 700 true 701 .none (.ref 702) (.ref 703) (.ref 704) 1118 1119),(uM 53 11 "MachineCore.met" 3 "postcore.machine" 774 705),(tO []),(fO []),(tO [.str "self" 1124, .str "thing" 1125]),(tO []),(oM 53 12 "MachineCore.execute" 0),(cK "execute" 1121 "MachineCore.execute" 410 2 0 0 3 707 true 708 .none (.ref 709) (.ref 710) (.ref 711) 1126 1127),(uM 53 12 "MachineCore.execute" 3 "postcore.machine" 774 712),(tO []),(fO []),(tO [.str "self" 1132, .str "thing" 1133]),(tO []),(oM 53 13 "MachineCore.run_proc" 0),(cK "run_proc" 1129 "MachineCore.run_proc" 416 2 0 0 3 714 true 715 .none (.ref 716) (.ref 717) (.ref 718) 1134 1135),(uM 53 13 "MachineCore.run_proc" 3 "postcore.machine" 774 719),(tO []),(fO []),(tO [.str "self" 1140, .str "thing" 1141]),(tO []),(oM 53 14 "MachineCore.run_source" 0),(cK "run_source" 1137 "MachineCore.run_source" 422 2 0 0 3 721 true 722 .none (.ref 723) (.ref 724) (.ref 725) 1142 1143),(uM 53 14 "MachineCore.run_source" 3 "postcore.machine" 774 726),(tO []),(fO []),(tO [.str "self" 1148, .str "octets" 1149]),(tO []),(oM 53 15 "MachineCore.lookup" 0),(cK "lookup" 1145 "MachineCore.lookup" 430 2 0 0 3 728 true 729 .none (.ref 730) (.ref 731) (.ref 732) 1150 1151),(uM 53 15 "MachineCore.lookup" 3 "postcore.machine" 774 733),(tO []),(fO []),(tO [.str "self" 1156, .str "thing" 1157, .str "found" 1158]),(tO []),(oM 53 16 "MachineCore.value_of" 0),(cK "value_of" 1153 "MachineCore.value_of" 433 2 0 0 3 735 true 736 .none (.ref 737) (.ref 738) (.ref 739) 1159 1160),(uM 53 16 "MachineCore.value_of" 3 "postcore.machine" 774 740),(tO []),(fO []),(tO [.str "self" 1165, .str "thing" 1166, .str "value" 1167]),(tO []),(oM 53 17 "MachineCore.run_name" 0),(cK "run_name" 1162 "MachineCore.run_name" 439 2 0 0 3 742 true 743 .none (.ref 744) (.ref 745) (.ref 746) 1168 1169),(uM 53 17 "MachineCore.run_name" 3 "postcore.machine" 774 747),(tO []),(fO []),(tO [.str "self" 1174, .str "thing" 1175, .str "act" 1176, .str "kept" 1177, .str "many" 1178, .str "error" 1179]),(tO []),(oM 53 18 "MachineCore.call" 0),(cK "call" 1171 "MachineCore.call" 448 2 0 0 3 749 true 750 .none (.ref 751) (.ref 752) (.ref 753) 1180 1181),(uM 53 18 "MachineCore.call" 3 "postcore.machine" 774 754),(tO []),(fO []),(tO [.str "self" 1186, .str "source" 1187]),(tO []),(oM 53 19 "MachineCore.scanned" 0),(cK "scanned" 1183 "MachineCore.scanned" 464 2 0 0 3 756 true 757 .none (.ref 758) (.ref 759) (.ref 760) 1188 1189),(uM 53 19 "MachineCore.scanned" 3 "postcore.machine" 774 761),(tO []),(fO []),(tO [.str "self" 1194, .str "octets" 1195]),(tO []),(oM 53 20 "MachineCore.tell" 0),(cK "tell" 1191 "MachineCore.tell" 467 2 0 0 3 763 true 764 .none (.ref 765) (.ref 766) (.ref 767) 1196 1197),(uM 53 20 "MachineCore.tell" 3 "postcore.machine" 774 768),(tO []),(fO []),(tO [.str "self" 1202, .str "told" 1203, .str "thing" 1204, .str "act" 1205]),(tO []),(oM 53 21 "MachineCore.failed" 0),(cK "failed" 1199 "MachineCore.failed" 471 3 0 0 3 770 true 771 .none (.ref 772) (.ref 773) (.ref 774) 1206 1207),(uM 53 21 "MachineCore.failed" 3 "postcore.machine" 774 775),(tO []),(fO []),(tO [.str "self" 1212, .str "frame" 1213, .str "error" 1214, .str "thing" 1215]),(tO []),(oM 53 22 "MachineCore.step" 0),(cK "step" 1209 "MachineCore.step" 481 1 0 0 3 777 true 778 .none (.ref 779) (.ref 780) (.ref 781) 1216 1217),(uM 53 22 "MachineCore.step" 3 "postcore.machine" 774 782),(tO [.int 0 1219]),(tO []),(fO []),(tO [.str "self" 1223, .str "most_steps" 1224, .str "depth" 1225, .str "last" 1226]),(tO []),(oM 53 23 "MachineCore.go_on" 0),(cK "go_on" 1220 "MachineCore.go_on" 495 3 0 0 3 785 true 786 .none (.ref 787) (.ref 788) (.ref 789) 1227 1228),(uO (fD (sM 53 23) "MachineCore.go_on" 3 (.ref 784) .none (.str "postcore.machine" 774) (.ref 790))),(tO []),(fO []),(tO [.str "self" 1233, .str "octets" 1234, .str "most_steps" 1235]),(tO []),(oM 53 24 "MachineCore.run" 0),(cK "run" 1230 "MachineCore.run" 508 3 0 0 3 792 true 793 .none (.ref 794) (.ref 795) (.ref 796) 1236 1237),(uM 53 24 "MachineCore.run" 3 "postcore.machine" 774 797),(tO []),(fO []),(tO [.str "self" 1242, .str "thing" 1243]),(tO []),(oM 53 25 "MachineCore.begun" 0),(cK "begun" 1239 "MachineCore.begun" 512 2 0 0 3 799 true 800 .none (.ref 801) (.ref 802) (.ref 803) 1244 1245),(uM 53 25 "MachineCore.begun" 3 "postcore.machine" 774 804),(tO []),(fO []),(tO [.str "self" 1250, .str "thing" 1251, .str "most_steps" 1252, .str "depth" 1253]),(tO []),(oM 53 26 "MachineCore.run_down" 0),(cK "run_down" 1247 "MachineCore.run_down" 515 4 0 0 3 806 true 807 .none (.ref 808) (.ref 809) (.ref 810) 1254 1255),(uM 53 26 "MachineCore.run_down" 3 "postcore.machine" 774 811),(tO []),(fO []),(tO [.str "self" 1260, .str "thing" 1261, .str "most_steps" 1262]),(tO []),(oM 53 27 "MachineCore.run_thing" 0),(cK "run_thing" 1257 "MachineCore.run_thing" 518 3 0 0 3 813 true 814 .none (.ref 815) (.ref 816) (.ref 817) 1263 1264),(uM 53 27 "MachineCore.run_thing" 3 "postcore.machine" 774 818),(tO []),(fO []),(tO [.str "self" 1269, .str "tables" 1270]),(tO []),(oM 53 28 "MachineCore.install" 0),(cK "install" 1266 "MachineCore.install" 521 2 0 0 3 820 true 821 .none (.ref 822) (.ref 823) (.ref 824) 1271 1272),(uM 53 28 "MachineCore.install" 3 "postcore.machine" 774 825),(tO [.str "current" 1274, .str "device" 1275, .str "dicts" 1276, .str "disk" 1277, .str "errors" 1278, .str "fault" 1279, .str "files" 1280, .str "fonts" 1281, .str "frames" 1282, .str "globals" 1283, .str "gs" 1284, .str "gstack" 1285, .str "is_packing" 1286, .str "is_stopped" 1287, .str "limits" 1288, .str "memory" 1289, .str "operands" 1290, .str "out" 1291, .str "random" 1292, .str "resources" 1293, .str "scanner" 1294, .str "steps" 1295, .str "system" 1296, .str "table" 1297, .str "tracer" 1298, .str "user" 1299]),IF P,GW,(tF "getset_descriptor" [.str "__dict__" 1301, .ref 829, .builtin "function.__dict__", .builtin "function.__dict__#set"]),(tF "getset_descriptor" [.str "__weakref__" 1303, .ref 829, .builtin "ExceptionGroup.__weakref__", .none]),(tF "super" [.ref 829, .ref 829, .ref 829]),(tF "builtin_function_or_method" [.builtin "object.__init_subclass__", .ref 829]),(tO []),(tF "builtin_function_or_method" [.builtin "type.__prepare__", .type "type"]),(dO [en P "__module__" 1321 (.str "postcore.memory" 1308),en P "__qualname__" 1323 (.str "Limits" 1322),en P "__firstlineno__" 1325 (.int 525 1324),en P "__init__" 1359 (.ref 848),en P "__static_attributes__" 1374 (.ref 849)] 5),(tO []),(fO [.int 527 0, .int 4 0, .ref 847]),(cK "Limits" 1316 "Limits" 525 0 0 0 0 837 false 838 .none .none .none .none 1319 1320),(rO [some (.ref 839),some (.ref 3),some (.ref 836),none,some (.str "postcore.memory" 1308),none,some (.ref 0)]),HE,(tO []),(fO []),(tO [.str "self" 1342, .str "operands" 1343, .str "dicts" 1344, .str "frames" 1345, .str "saves" 1346, .str "gstates" 1347, .str "text" 1348, .str "row" 1349, .str "entries" 1350, .str "word" 1351, .str "path" 1352, .str "dash" 1353, .str "files" 1354, .str "system" 1355, .str "vm" 1356]),(tO []),(oM 56 0 "Limits.__init__" 0),Ft,Iv,(tO [.str "dash" 1360, .str "dicts" 1361, .str "entries" 1362, .str "files" 1363, .str "frames" 1364, .str "gstates" 1365, .str "operands" 1366, .str "path" 1367, .str "row" 1368, .str "saves" 1369, .str "system" 1370, .str "text" 1371, .str "vm" 1372, .str "word" 1373]),HG P,GJ,(tF "getset_descriptor" [.str "__dict__" 1375, .ref 851, .builtin "function.__dict__", .builtin "function.__dict__#set"]),(tF "getset_descriptor" [.str "__weakref__" 1377, .ref 851, .builtin "ExceptionGroup.__weakref__", .none]),(tF "super" [.ref 851, .ref 851, .ref 851]),(tF "builtin_function_or_method" [.builtin "object.__init_subclass__", .ref 851]),(tO []),(tF "builtin_function_or_method" [.builtin "type.__prepare__", .type "type"]),(dO [en P "__module__" 1389 (.str "postcore.memory" 1308),en P "__qualname__" 1391 (.str "VmSave" 1390),en P "__firstlineno__" 1393 (.int 542 1392),en P "__init__" 1404 (.ref 869),en P "__static_attributes__" 1409 (.ref 870)] 5),(tO []),(fO [.int 544 0, .int 4 0, .ref 868]),(cK "VmSave" 1384 "VmSave" 542 0 0 0 0 859 false 860 .none .none .none .none 1387 1388),(rO [some (.ref 861),some (.ref 3),some (.ref 858),none,some (.str "postcore.memory" 1308),none,some (.ref 0)]),(tO []),(fO []),(tO [.str "self" 1397, .str "number" 1398, .str "many" 1399, .str "used" 1400, .str "note" 1401]),(tO []),(oM 57 0 "VmSave.__init__" 0),(cK "__init__" 1394 "VmSave.__init__" 544 5 0 0 3 863 true 864 .none (.ref 865) (.ref 866) (.ref 867) 1402 1403),(uM 57 0 "VmSave.__init__" 3 "postcore.memory" 1308 868),(tO [.str "many" 1405, .str "note" 1406, .str "number" 1407, .str "used" 1408]),(dO [en P "__module__" 1389 (.str "postcore.memory" 1308),en P "__firstlineno__" 1393 (.int 542 1392),en P "__init__" 1404 (.ref 869),en P "__static_attributes__" 1409 (.ref 870),en P "__dict__" 1411 (.ref 873),en P "__weakref__" 1413 (.ref 874),en P "__doc__" 1414 .none] 4),(kO "VmSave" [.type "object"] [.ref 872, .type "object"] 871 "VmSave" [] [none,none,some (.str "VmSave" 1382),some (.str "VmSave" 1390),some (.builtin "object.__new__"),some (.bool true)]),(tF "getset_descriptor" [.str "__dict__" 1410, .ref 872, .builtin "function.__dict__", .builtin "function.__dict__#set"]),(tF "getset_descriptor" [.str "__weakref__" 1412, .ref 872, .builtin "ExceptionGroup.__weakref__", .none]),(tF "super" [.ref 872, .ref 872, .ref 872]),(tF "builtin_function_or_method" [.builtin "object.__init_subclass__", .ref 872]),(tO []),(tF "builtin_function_or_method" [.builtin "type.__prepare__", .type "type"]),(dO [en P "__module__" 1424 (.str "postcore.memory" 1308),en P "__qualname__" 1426 (.str "BodyMaker" 1425),en P "__firstlineno__" 1428 (.int 549 1427),en P "__init__" 1436 (.ref 890),en P "level" 1444 (.ref 898),en P "body_level" 1451 (.ref 905),en P "take_room" 1459 (.ref 912),en P "check_room" 1467 (.ref 919),en P "make_text" 1475 (.ref 926),en P "text_of_octets" 1483 (.ref 933),en P "make_row" 1491 (.ref 940),en P "make_dict" 1499 (.ref 947),en P "__static_attributes__" 1510 (.ref 948)] 13),(tO []),(fO [.int 551 0, .int 4 0, .ref 889, .int 564 0, .int 4 0, .ref 896, .int 567 0, .int 4 0, .ref 904, .int 570 0, .int 4 0, .ref 911, .int 573 0, .int 4 0, .ref 918, .int 576 0, .int 4 0, .ref 925, .int 579 0, .int 4 0, .ref 932, .int 582 0, .int 4 0, .ref 939, .int 585 0, .int 4 0, .ref 946]),(cK "BodyMaker" 1419 "BodyMaker" 549 0 0 0 0 880 false 881 .none .none .none .none 1422 1423),(rO [some (.ref 882),some (.ref 3),some (.ref 879),none,some (.str "postcore.memory" 1308),none,some (.ref 0)]),(tO []),(fO []),(tO [.str "self" 1432, .str "limits" 1433]),(tO []),(oM 58 0 "BodyMaker.__init__" 0),I6,FP,(tO []),(fO []),(tO [.str "self" 1440]),(tO []),(oM 58 1 "BodyMaker.level" 0),(cK "level" 1437 "BodyMaker.level" 563 1 0 0 3 891 true 892 .none (.ref 893) (.ref 894) (.ref 895) 1441 1442),(uM 58 1 "BodyMaker.level" 3 "postcore.memory" 1308 896),(tF "property" [.ref 897, .none, .none, .none, .str "level" 1444, .bool false]),(tO []),(fO []),(tO [.str "self" 1448]),(tO []),(oM 58 2 "BodyMaker.body_level" 0),(cK "body_level" 1445 "BodyMaker.body_level" 567 1 0 0 3 899 true 900 .none (.ref 901) (.ref 902) (.ref 903) 1449 1450),(uM 58 2 "BodyMaker.body_level" 3 "postcore.memory" 1308 904),(tO []),(fO []),(tO [.str "self" 1455, .str "cost" 1456]),(tO []),(oM 58 3 "BodyMaker.take_room" 0),(cK "take_room" 1452 "BodyMaker.take_room" 570 2 0 0 3 906 true 907 .none (.ref 908) (.ref 909) (.ref 910) 1457 1458),(uM 58 3 "BodyMaker.take_room" 3 "postcore.memory" 1308 911),(tO []),(fO []),(tO [.str "self" 1463, .str "cost" 1464]),(tO []),(oM 58 4 "BodyMaker.check_room" 0),(cK "check_room" 1460 "BodyMaker.check_room" 573 2 0 0 3 913 true 914 .none (.ref 915) (.ref 916) (.ref 917) 1465 1466),(uM 58 4 "BodyMaker.check_room" 3 "postcore.memory" 1308 918),(tO []),(fO []),(tO [.str "self" 1471, .str "many" 1472]),(tO []),(oM 58 5 "BodyMaker.make_text" 0),(cK "make_text" 1468 "BodyMaker.make_text" 576 2 0 0 3 920 true 921 .none (.ref 922) (.ref 923) (.ref 924) 1473 1474),(uM 58 5 "BodyMaker.make_text" 3 "postcore.memory" 1308 925),(tO []),(fO []),(tO [.str "self" 1479, .str "octets" 1480]),(tO []),(oM 58 6 "BodyMaker.text_of_octets" 0),(cK "text_of_octets" 1476 "BodyMaker.text_of_octets" 579 2 0 0 3 927 true 928 .none (.ref 929) (.ref 930) (.ref 931) 1481 1482),(uM 58 6 "BodyMaker.text_of_octets" 3 "postcore.memory" 1308 932),(tO []),(fO []),(tO [.str "self" 1487, .str "things" 1488]),(tO []),(oM 58 7 "BodyMaker.make_row" 0),(cK "make_row" 1484 "BodyMaker.make_row" 582 2 0 0 3 934 true 935 .none (.ref 936) (.ref 937) (.ref 938) 1489 1490),(uM 58 7 "BodyMaker.make_row" 3 "postcore.memory" 1308 939),(tO []),(fO []),(tO [.str "self" 1495, .str "most" 1496]),(tO []),(oM 58 8 "BodyMaker.make_dict" 0),(cK "make_dict" 1492 "BodyMaker.make_dict" 585 2 0 0 3 941 true 942 .none (.ref 943) (.ref 944) (.ref 945) 1497 1498),(uM 58 8 "BodyMaker.make_dict" 3 "postcore.memory" 1308 946),(tO [.str "freed" 1500, .str "is_global" 1501, .str "journal" 1502, .str "last_body" 1503, .str "last_save" 1504, .str "limits" 1505, .str "made" 1506, .str "saves" 1507, .str "used" 1508, .str "used_global" 1509]),Gs P,HA,(tF "getset_descriptor" [.str "__dict__" 1511, .ref 950, .builtin "function.__dict__", .builtin "function.__dict__#set"]),(tF "getset_descriptor" [.str "__weakref__" 1513, .ref 950, .builtin "ExceptionGroup.__weakref__", .none]),(tF "super" [.ref 950, .ref 950, .ref 950]),(tF "builtin_function_or_method" [.builtin "object.__init_subclass__", .ref 950]),(tO [.ref 950]),(tF "builtin_function_or_method" [.builtin "type.__prepare__", .type "type"]),(dO [en P "__module__" 1525 (.str "postcore.memory" 1308),en P "__qualname__" 1527 (.str "BodyChanger" 1526),en P "__firstlineno__" 1529 (.int 587 1528),en P "is_elder" 1537 (.ref 968),en P "check_holds" 1546 (.ref 975),en P "put_item" 1556 (.ref 982),en P "put_items" 1566 (.ref 989),en P "put_octet" 1576 (.ref 996),en P "put_octets" 1586 (.ref 1003),en P "grow" 1594 (.ref 1010),en P "check_entries" 1603 (.ref 1017),en P "check_key" 1611 (.ref 1024),en P "put_entry" 1621 (.ref 1031),en P "drop_entry" 1630 (.ref 1038),en P "set_access" 1639 (.ref 1045),en P "note_state" 1647 (.ref 1052),en P "__static_attributes__" 1648 (.ref 1053)] 17),(tO []),(fO [.int 589 0, .int 4 0, .ref 967, .int 592 0, .int 4 0, .ref 974, .int 595 0, .int 4 0, .ref 981, .int 598 0, .int 4 0, .ref 988, .int 601 0, .int 4 0, .ref 995, .int 604 0, .int 4 0, .ref 1002, .int 607 0, .int 4 0, .ref 1009, .int 610 0, .int 4 0, .ref 1016, .int 613 0, .int 4 0, .ref 1023, .int 616 0, .int 4 0, .ref 1030, .int 619 0, .int 4 0, .ref 1037, .int 622 0, .int 4 0, .ref 1044, .int 625 0, .int 4 0, .ref 1051]),(cK "BodyChanger" 1520 "BodyChanger" 587 0 0 0 0 958 false 959 .none .none .none .none 1523 1524),(rO [some (.ref 960),some (.ref 3),some (.ref 957),none,some (.str "postcore.memory" 1308),none,some (.ref 0)]),(tO []),(fO []),(tO [.str "self" 1533, .str "body" 1534]),(tO []),(oM 59 0 "BodyChanger.is_elder" 0),(cK "is_elder" 1530 "BodyChanger.is_elder" 589 2 0 0 3 962 true 963 .none (.ref 964) (.ref 965) (.ref 966) 1535 1536),(uM 59 0 "BodyChanger.is_elder" 3 "postcore.memory" 1308 967),(tO []),(fO []),(tO [.str "self" 1541, .str "body" 1542, .str "thing" 1543]),(tO []),(oM 59 1 "BodyChanger.check_holds" 0),(cK "check_holds" 1538 "BodyChanger.check_holds" 592 3 0 0 3 969 true 970 .none (.ref 971) (.ref 972) (.ref 973) 1544 1545),(uM 59 1 "BodyChanger.check_holds" 3 "postcore.memory" 1308 974),(tO []),(fO []),(tO [.str "self" 1550, .str "row" 1551, .str "at" 1552, .str "thing" 1553]),(tO []),(oM 59 2 "BodyChanger.put_item" 0),(cK "put_item" 1547 "BodyChanger.put_item" 595 4 0 0 3 976 true 977 .none (.ref 978) (.ref 979) (.ref 980) 1554 1555),(uM 59 2 "BodyChanger.put_item" 3 "postcore.memory" 1308 981),(tO []),(fO []),(tO [.str "self" 1560, .str "row" 1561, .str "at" 1562, .str "things" 1563]),(tO []),(oM 59 3 "BodyChanger.put_items" 0),(cK "put_items" 1557 "BodyChanger.put_items" 598 4 0 0 3 983 true 984 .none (.ref 985) (.ref 986) (.ref 987) 1564 1565),(uM 59 3 "BodyChanger.put_items" 3 "postcore.memory" 1308 988),(tO []),(fO []),(tO [.str "self" 1570, .str "text" 1571, .str "at" 1572, .str "octet" 1573]),(tO []),(oM 59 4 "BodyChanger.put_octet" 0),(cK "put_octet" 1567 "BodyChanger.put_octet" 601 4 0 0 3 990 true 991 .none (.ref 992) (.ref 993) (.ref 994) 1574 1575),(uM 59 4 "BodyChanger.put_octet" 3 "postcore.memory" 1308 995),(tO []),(fO []),(tO [.str "self" 1580, .str "text" 1581, .str "at" 1582, .str "octets" 1583]),(tO []),(oM 59 5 "BodyChanger.put_octets" 0),(cK "put_octets" 1577 "BodyChanger.put_octets" 604 4 0 0 3 997 true 998 .none (.ref 999) (.ref 1000) (.ref 1001) 1584 1585),(uM 59 5 "BodyChanger.put_octets" 3 "postcore.memory" 1308 1002),(tO []),(fO []),(tO [.str "self" 1590, .str "body" 1591]),(tO []),(oM 59 6 "BodyChanger.grow" 0),(cK "grow" 1587 "BodyChanger.grow" 607 2 0 0 3 1004 true 1005 .none (.ref 1006) (.ref 1007) (.ref 1008) 1592 1593),(uM 59 6 "BodyChanger.grow" 3 "postcore.memory" 1308 1009),(tO []),(fO []),(tO [.str "self" 1598, .str "body" 1599, .str "many" 1600]),(tO []),(oM 59 7 "BodyChanger.check_entries" 0),(cK "check_entries" 1595 "BodyChanger.check_entries" 610 3 0 0 3 1011 true 1012 .none (.ref 1013) (.ref 1014) (.ref 1015) 1601 1602),(uM 59 7 "BodyChanger.check_entries" 3 "postcore.memory" 1308 1016),(tO []),(fO []),(tO [.str "self" 1607, .str "key" 1608]),(tO []),(oM 59 8 "BodyChanger.check_key" 0),(cK "check_key" 1604 "BodyChanger.check_key" 613 2 0 0 3 1018 true 1019 .none (.ref 1020) (.ref 1021) (.ref 1022) 1609 1610),(uM 59 8 "BodyChanger.check_key" 3 "postcore.memory" 1308 1023),(tO []),(fO []),(tO [.str "self" 1615, .str "body" 1616, .str "key" 1617, .str "thing" 1618]),(tO []),(oM 59 9 "BodyChanger.put_entry" 0),(cK "put_entry" 1612 "BodyChanger.put_entry" 616 4 0 0 3 1025 true 1026 .none (.ref 1027) (.ref 1028) (.ref 1029) 1619 1620),(uM 59 9 "BodyChanger.put_entry" 3 "postcore.memory" 1308 1030),(tO []),(fO []),(tO [.str "self" 1625, .str "body" 1626, .str "key" 1627]),(tO []),(oM 59 10 "BodyChanger.drop_entry" 0),(cK "drop_entry" 1622 "BodyChanger.drop_entry" 619 3 0 0 3 1032 true 1033 .none (.ref 1034) (.ref 1035) (.ref 1036) 1628 1629),(uM 59 10 "BodyChanger.drop_entry" 3 "postcore.memory" 1308 1037),(tO []),(fO []),(tO [.str "self" 1634, .str "body" 1635, .str "access" 1636]),(tO []),(oM 59 11 "BodyChanger.set_access" 0),(cK "set_access" 1631 "BodyChanger.set_access" 622 3 0 0 3 1039 true 1040 .none (.ref 1041) (.ref 1042) (.ref 1043) 1637 1638),(uM 59 11 "BodyChanger.set_access" 3 "postcore.memory" 1308 1044),(tO []),(fO []),(tO [.str "self" 1643, .str "state" 1644]),(tO []),(oM 59 12 "BodyChanger.note_state" 0),(cK "note_state" 1640 "BodyChanger.note_state" 625 2 0 0 3 1046 true 1047 .none (.ref 1048) (.ref 1049) (.ref 1050) 1645 1646),(uM 59 12 "BodyChanger.note_state" 3 "postcore.memory" 1308 1051),(tO []),BL P,Ct,(tF "super" [.ref 1055, .ref 1055, .ref 1055]),(tF "builtin_function_or_method" [.builtin "object.__init_subclass__", .ref 1055]),(tO [.ref 1055]),(tF "builtin_function_or_method" [.builtin "type.__prepare__", .type "type"]),(dO [en P "__module__" 1659 (.str "postcore.memory" 1308),en P "__qualname__" 1661 (.str "Memory" 1660),en P "__firstlineno__" 1663 (.int 627 1662),en P "save" 1671 (.ref 1072),en P "place_of_save" 1681 (.ref 1079),en P "is_saved" 1689 (.ref 1086),en P "note_of" 1697 (.ref 1093),en P "sure_place" 1706 (.ref 1100),en P "newer_than" 1715 (.ref 1107),en P "restore" 1730 (.ref 1114),en P "settle_costs" 1742 (.ref 1121),en P "status" 1749 (.ref 1128),en P "collect" 1757 (.ref 1135),en P "reclaim" 1766 (.ref 1143),en P "journal_things" 1773 (.ref 1150),en P "__static_attributes__" 1778 (.ref 1151)] 16),(tO []),(fO [.int 629 0, .int 4 0, .ref 1071, .int 636 0, .int 4 0, .ref 1078, .int 642 0, .int 4 0, .ref 1085, .int 645 0, .int 4 0, .ref 1092, .int 648 0, .int 4 0, .ref 1099, .int 654 0, .int 4 0, .ref 1106, .int 657 0, .int 4 0, .ref 1113, .int 675 0, .int 4 0, .ref 1120, .int 681 0, .int 4 0, .ref 1127, .int 684 0, .int 4 0, .ref 1134, .int 687 0, .int 4 0, .ref 1142, .int 690 0, .int 4 0, .ref 1149]),(cK "Memory" 1654 "Memory" 627 0 0 0 0 1061 false 1062 .none .none .none .none 1657 1658),(rO [some (.ref 1063),some (.ref 3),some (.ref 1060),none,some (.str "postcore.memory" 1308),none,some (.ref 0)]),(tO [.none]),(tO []),(fO []),(tO [.str "self" 1667, .str "note" 1668]),(tO []),(oM 60 0 "Memory.save" 0),(cK "save" 1664 "Memory.save" 629 2 0 0 3 1066 true 1067 .none (.ref 1068) (.ref 1069) (.ref 1070) 1669 1670),(uO (fD (sM 60 0) "Memory.save" 3 (.ref 1065) .none (.str "postcore.memory" 1308) (.ref 1071))),(tO []),(fO []),(tO [.str "self" 1675, .str "number" 1676, .str "place" 1677, .str "saved" 1678]),(tO []),(oM 60 1 "Memory.place_of_save" 0),(cK "place_of_save" 1672 "Memory.place_of_save" 636 2 0 0 3 1073 true 1074 .none (.ref 1075) (.ref 1076) (.ref 1077) 1679 1680),(uM 60 1 "Memory.place_of_save" 3 "postcore.memory" 1308 1078),(tO []),(fO []),(tO [.str "self" 1685, .str "number" 1686]),(tO []),(oM 60 2 "Memory.is_saved" 0),(cK "is_saved" 1682 "Memory.is_saved" 642 2 0 0 3 1080 true 1081 .none (.ref 1082) (.ref 1083) (.ref 1084) 1687 1688),(uM 60 2 "Memory.is_saved" 3 "postcore.memory" 1308 1085),(tO []),(fO []),(tO [.str "self" 1693, .str "number" 1694]),(tO []),(oM 60 3 "Memory.note_of" 0),(cK "note_of" 1690 "Memory.note_of" 645 2 0 0 3 1087 true 1088 .none (.ref 1089) (.ref 1090) (.ref 1091) 1695 1696),(uM 60 3 "Memory.note_of" 3 "postcore.memory" 1308 1092),(tO []),(fO []),(tO [.str "self" 1701, .str "number" 1702, .str "place" 1703]),(tO []),(oM 60 4 "Memory.sure_place" 0),(cK "sure_place" 1698 "Memory.sure_place" 648 2 0 0 3 1094 true 1095 .none (.ref 1096) (.ref 1097) (.ref 1098) 1704 1705),(uM 60 4 "Memory.sure_place" 3 "postcore.memory" 1308 1099),(tO []),(fO []),(tO [.str "self" 1710, .str "number" 1711, .str "thing" 1712]),(tO []),(oM 60 5 "Memory.newer_than" 0),(cK "newer_than" 1707 "Memory.newer_than" 654 3 0 0 3 1101 true 1102 .none (.ref 1103) (.ref 1104) (.ref 1105) 1713 1714),(uM 60 5 "Memory.newer_than" 3 "postcore.memory" 1308 1106),(tO []),(fO []),(tO [.str "self" 1719, .str "number" 1720, .str "place" 1721, .str "saved" 1722, .str "undone" 1723, .str "body" 1724, .str "cost" 1725, .str "is_global" 1726, .str "level" 1727]),(tO []),(oM 60 6 "Memory.restore" 0),(cK "restore" 1716 "Memory.restore" 657 2 0 0 3 1108 true 1109 .none (.ref 1110) (.ref 1111) (.ref 1112) 1728 1729),(uM 60 6 "Memory.restore" 3 "postcore.memory" 1308 1113),(tO []),(fO []),(tO [.str "self" 1734, .str "undone" 1735, .str "change" 1736, .str "cost" 1737, .str "is_global" 1738, .str "level" 1739]),(tO []),(oM 60 7 "Memory.settle_costs" 0),(cK "settle_costs" 1731 "Memory.settle_costs" 675 2 0 0 3 1115 true 1116 .none (.ref 1117) (.ref 1118) (.ref 1119) 1740 1741),(uM 60 7 "Memory.settle_costs" 3 "postcore.memory" 1308 1120),(tO []),(fO []),(tO [.str "self" 1746]),(tO []),(oM 60 8 "Memory.status" 0),(cK "status" 1743 "Memory.status" 681 1 0 0 3 1122 true 1123 .none (.ref 1124) (.ref 1125) (.ref 1126) 1747 1748),(uM 60 8 "Memory.status" 3 "postcore.memory" 1308 1127),(tO []),(fO []),(tO [.str "self" 1753, .str "roots" 1754]),(tO []),(oM 60 9 "Memory.collect" 0),(cK "collect" 1750 "Memory.collect" 684 2 0 0 3 1129 true 1130 .none (.ref 1131) (.ref 1132) (.ref 1133) 1755 1756),(uM 60 9 "Memory.collect" 3 "postcore.memory" 1308 1134),(tO [.bool false]),(tO []),(fO []),(tO [.str "self" 1761, .str "roots" 1762, .str "is_all" 1763]),(tO []),(oM 60 10 "Memory.reclaim" 0),(cK "reclaim" 1758 "Memory.reclaim" 687 3 0 0 3 1137 true 1138 .none (.ref 1139) (.ref 1140) (.ref 1141) 1764 1765),(uO (fD (sM 60 10) "Memory.reclaim" 3 (.ref 1136) .none (.str "postcore.memory" 1308) (.ref 1142))),(tO []),(fO []),(tO [.str "self" 1770]),(tO []),(oM 60 11 "Memory.journal_things" 0),(cK "journal_things" 1767 "Memory.journal_things" 690 1 0 0 3 1144 true 1145 .none (.ref 1146) (.ref 1147) (.ref 1148) 1771 1772),(uM 60 11 "Memory.journal_things" 3 "postcore.memory" 1308 1149),(tO [.str "freed" 1774, .str "last_save" 1775, .str "saves" 1776, .str "used" 1777]),BX P,CJ,(tF "super" [.ref 1153, .ref 1153, .ref 1153]),(tF "builtin_function_or_method" [.builtin "object.__init_subclass__", .ref 1153]),(tO []),(fO []),(tO [.str "change" 1785, .str "word" 1786, .str "body" 1787, .str "entries" 1788, .str "keys" 1789, .str "key" 1790]),(tO []),(oA 61 "memory_put_back" 0),(cK "memory_put_back" 1782 "memory_put_back" 692 1 0 0 3 1156 true 1157 .none (.ref 1158) (.ref 1159) (.ref 1160) 1791 1792),(uA 61 "memory_put_back" 3 "postcore.memory" 1308 1161),(tO []),(tF "builtin_function_or_method" [.builtin "type.__prepare__", .type "type"]),(dO [en P "__module__" 1803 (.str "postcore.stacks" 1794),en P "__qualname__" 1805 (.str "Stack" 1804),en P "__firstlineno__" 1807 (.int 713 1806),en P "__init__" 1815 (.ref 1176),en P "many" 1823 (.ref 1184),en P "push" 1831 (.ref 1191),en P "push_all" 1839 (.ref 1198),en P "pop" 1846 (.ref 1205),en P "at" 1854 (.ref 1212),en P "top" 1862 (.ref 1219),en P "take" 1871 (.ref 1226),en P "cut" 1879 (.ref 1233),en P "rolled" 1888 (.ref 1240),en P "to_mark" 1895 (.ref 1247),en P "snapshot" 1902 (.ref 1254),en P "put_back" 1910 (.ref 1261),en P "__static_attributes__" 1913 (.ref 1262)] 17),(tO []),(fO [.int 715 0, .int 4 0, .ref 1175, .int 720 0, .int 4 0, .ref 1182, .int 723 0, .int 4 0, .ref 1190, .int 728 0, .int 4 0, .ref 1197, .int 731 0, .int 4 0, .ref 1204, .int 736 0, .int 4 0, .ref 1211, .int 743 0, .int 4 0, .ref 1218, .int 750 0, .int 4 0, .ref 1225, .int 755 0, .int 4 0, .ref 1232, .int 758 0, .int 4 0, .ref 1239, .int 761 0, .int 4 0, .ref 1246, .int 764 0, .int 4 0, .ref 1253, .int 767 0, .int 4 0, .ref 1260]),(cK "Stack" 1798 "Stack" 713 0 0 0 0 1166 false 1167 .none .none .none .none 1801 1802),(rO [some (.ref 1168),some (.ref 3),some (.ref 1165),none,some (.str "postcore.stacks" 1794),none,some (.ref 0)]),(tO []),(fO []),(tO [.str "self" 1811, .str "most" 1812]),(tO []),(oM 63 0 "Stack.__init__" 0),BK,Bw,(tO []),(fO []),(tO [.str "self" 1819]),(tO []),(oM 63 1 "Stack.many" 0),(cK "many" 1816 "Stack.many" 719 1 0 0 3 1177 true 1178 .none (.ref 1179) (.ref 1180) (.ref 1181) 1820 1821),(uM 63 1 "Stack.many" 3 "postcore.stacks" 1794 1182),(tF "property" [.ref 1183, .none, .none, .none, .str "many" 1823, .bool false]),(tO []),(fO []),(tO [.str "self" 1827, .str "thing" 1828]),(tO []),(oM 63 2 "Stack.push" 0),Cz,CL,(tO []),(fO []),(tO [.str "self" 1835, .str "things" 1836]),(tO []),(oM 63 3 "Stack.push_all" 0),(cK "push_all" 1832 "Stack.push_all" 728 2 0 0 3 1192 true 1193 .none (.ref 1194) (.ref 1195) (.ref 1196) 1837 1838),(uM 63 3 "Stack.push_all" 3 "postcore.stacks" 1794 1197),(tO []),(fO []),(tO [.str "self" 1843]),(tO []),(oM 63 4 "Stack.pop" 0),(cK "pop" 1840 "Stack.pop" 731 1 0 0 3 1199 true 1200 .none (.ref 1201) (.ref 1202) (.ref 1203) 1844 1845),(uM 63 4 "Stack.pop" 3 "postcore.stacks" 1794 1204),(tO []),(fO []),(tO [.str "self" 1850, .str "depth" 1851]),(tO []),(oM 63 5 "Stack.at" 0),(cK "at" 1847 "Stack.at" 736 2 0 0 3 1206 true 1207 .none (.ref 1208) (.ref 1209) (.ref 1210) 1852 1853),(uM 63 5 "Stack.at" 3 "postcore.stacks" 1794 1211),(tO []),(fO []),(tO [.str "self" 1858, .str "many" 1859]),(tO []),(oM 63 6 "Stack.top" 0),(cK "top" 1855 "Stack.top" 743 2 0 0 3 1213 true 1214 .none (.ref 1215) (.ref 1216) (.ref 1217) 1860 1861),(uM 63 6 "Stack.top" 3 "postcore.stacks" 1794 1218),(tO []),(fO []),(tO [.str "self" 1866, .str "many" 1867, .str "found" 1868]),(tO []),(oM 63 7 "Stack.take" 0),(cK "take" 1863 "Stack.take" 750 2 0 0 3 1220 true 1221 .none (.ref 1222) (.ref 1223) (.ref 1224) 1869 1870),(uM 63 7 "Stack.take" 3 "postcore.stacks" 1794 1225),(tO []),(fO []),(tO [.str "self" 1875, .str "many" 1876]),(tO []),(oM 63 8 "Stack.cut" 0),(cK "cut" 1872 "Stack.cut" 755 2 0 0 3 1227 true 1228 .none (.ref 1229) (.ref 1230) (.ref 1231) 1877 1878),(uM 63 8 "Stack.cut" 3 "postcore.stacks" 1794 1232),(tO []),(fO []),(tO [.str "self" 1883, .str "many" 1884, .str "by" 1885]),(tO []),(oM 63 9 "Stack.rolled" 0),(cK "rolled" 1880 "Stack.rolled" 758 3 0 0 3 1234 true 1235 .none (.ref 1236) (.ref 1237) (.ref 1238) 1886 1887),(uM 63 9 "Stack.rolled" 3 "postcore.stacks" 1794 1239),(tO []),(fO []),(tO [.str "self" 1892]),(tO []),(oM 63 10 "Stack.to_mark" 0),(cK "to_mark" 1889 "Stack.to_mark" 761 1 0 0 3 1241 true 1242 .none (.ref 1243) (.ref 1244) (.ref 1245) 1893 1894),(uM 63 10 "Stack.to_mark" 3 "postcore.stacks" 1794 1246),(tO []),(fO []),(tO [.str "self" 1899]),(tO []),(oM 63 11 "Stack.snapshot" 0),(cK "snapshot" 1896 "Stack.snapshot" 764 1 0 0 3 1248 true 1249 .none (.ref 1250) (.ref 1251) (.ref 1252) 1900 1901),(uM 63 11 "Stack.snapshot" 3 "postcore.stacks" 1794 1253),(tO []),(fO []),(tO [.str "self" 1906, .str "snapshot" 1907]),(tO []),(oM 63 12 "Stack.put_back" 0),(cK "put_back" 1903 "Stack.put_back" 767 2 0 0 3 1255 true 1256 .none (.ref 1257) (.ref 1258) (.ref 1259) 1908 1909),(uM 63 12 "Stack.put_back" 3 "postcore.stacks" 1794 1260),(tO [.str "most" 1911, .str "things" 1912]),C0 P,CQ,(tF "getset_descriptor" [.str "__dict__" 1914, .ref 1264, .builtin "function.__dict__", .builtin "function.__dict__#set"]),(tF "getset_descriptor" [.str "__weakref__" 1916, .ref 1264, .builtin "ExceptionGroup.__weakref__", .none]),(tF "super" [.ref 1264, .ref 1264, .ref 1264]),(tF "builtin_function_or_method" [.builtin "object.__init_subclass__", .ref 1264]),(tO []),(fO []),(oA 65 "_law_deck" 0),CT,CO,(tO []),(fO []),(tO [.str "deck" 1932, .str "many" 1933]),(tO []),(oA 66 "_law_draw" 0),Bz,BN,(tO []),(fO []),(tO [.str "deck" 1940, .str "sizes" 1941, .str "number" 1942, .str "kind" 1943, .str "size" 1944, .str "start" 1945]),(tO []),(oA 67 "_law_item" 0),Cr,C8,(tO []),(fO []),(oA 68 "_law_sheet" 0),CM,Ce,(tO []),(fO []),(oA 69 "_law_copied" 0),CN,BF,(tO []),(fO []),(oA 70 "_law_turned" 0),C6,CU,(tO []),(fO []),(tO [.str "made" 1970, .str "row" 1971, .str "found" 1972, .str "one" 1973]),(tO []),(oA 71 "_law_things" 0),BZ,Ca,(tO []),(fO []),(tO [.str "sheet" 1980, .str "first" 1981, .str "step" 1982, .str "made" 1983, .str "number" 1984, .str "kind" 1985, .str "things" 1986, .str "access" 1987, .str "body" 1988, .str "machine" 1989, .str "thing" 1990]),(tO []),(oA 72 "_law_machine" 0),CR,CH,(tO []),(fO []),(oA 73 "_law_first_unlike" 0),Cy,Cc,(tO []),(fO []),(tO [.str "script" 2003, .str "deck" 2004, .str "depth" 2005, .str "near" 2006, .str "far" 2007, .str "one" 2008, .str "other" 2009, .str "was" 2010, .str "told" 2011, .str "level" 2012]),(tO []),(oA 74 "law" 0),CD,CC]
section
variable (P:Params)
def BV:=fO (dq.take 0)
end
noncomputable def T0 (P:Params):BT:=dc 12 (pt (pt (pt ((O P).take 15) 2 (boot_o_2 P)) 3 (boot_o_3 P)) 12 (BV))
noncomputable abbrev S0 (w:World) (os:OsState):SharedT:=⟨T0 w.params,15,lf,⟨[]⟩,dr,187,os⟩
noncomputable def T1 (P:Params):BT:=dc 12 (pt (pt (pt ((O P).take 43) 3 ((dO (en P "__name__" 165 (.str "postcore.base" 194)::(e3 P).take 11) 12))) 12 ((fO (dq.take 6)))) 39 ((kO "PostError" [.type "Exception"] [.ref 39, .type "Exception", .type "BaseException", .type "object"] 38 "PostError" [] [some (.ref 22),none,some (.str "PostError" 198),some (.str "PostError" 206),some (.builtin "Exception.__new__"),some (.bool true)])))
noncomputable abbrev S1 (w:World) (os:OsState):SharedT:=⟨T1 w.params,43,lf,⟨[]⟩,dr,227,os⟩
noncomputable def T2 (P:Params):BT:=dc 12 (pt (pt (pt ((O P).take 55) 3 ((dO (en P "__name__" 165 (.str "postcore.base" 194)::(e3 P).take 12) 13))) 12 ((fO (dq.take 9)))) 39 ((kO "PostError" [.type "Exception"] [.ref 39, .type "Exception", .type "BaseException", .type "object"] 38 "PostError" [.ref 52] [some (.ref 22),none,some (.str "PostError" 198),some (.str "PostError" 206),some (.builtin "Exception.__new__"),some (.bool true)])))
noncomputable abbrev S2 (w:World) (os:OsState):SharedT:=⟨T2 w.params,55,lf,⟨[]⟩,dr,243,os⟩
noncomputable def T3 (P:Params):BT:=dc 12 (pt (pt (pt ((O P).take 67) 3 ((dO (en P "__name__" 165 (.str "postcore.base" 194)::(e3 P).take 13) 14))) 12 ((fO (dq.take 12)))) 39 ((kO "PostError" [.type "Exception"] [.ref 39, .type "Exception", .type "BaseException", .type "object"] 38 "PostError" [.ref 52, .ref 64] [some (.ref 22),none,some (.str "PostError" 198),some (.str "PostError" 206),some (.builtin "Exception.__new__"),some (.bool true)])))
noncomputable abbrev S3 (w:World) (os:OsState):SharedT:=⟨T3 w.params,67,lf,⟨[]⟩,dr,259,os⟩
noncomputable def T4 (P:Params):BT:=dc 12 (pt (pt ((O P).take 98) 3 ((dO (en P "__name__" 165 (.str "postcore.objects" 300)::(e3 P).take 20) 21))) 12 ((fO (dq.take 24))))
noncomputable abbrev S4 (w:World) (os:OsState):SharedT:=⟨T4 w.params,98,lf,⟨[]⟩,dr,308,os⟩
noncomputable def T5 (P:Params):BT:=dc 12 (pt (pt ((O P).take 120) 3 ((dO (en P "__name__" 165 (.str "postcore.objects" 300)::(e3 P).take 21) 22))) 12 ((fO (dq.take 27))))
noncomputable abbrev S5 (w:World) (os:OsState):SharedT:=⟨T5 w.params,120,lf,⟨[]⟩,dr,343,os⟩
noncomputable def T6 (P:Params):BT:=dc 12 (pt (pt ((O P).take 141) 3 ((dO (en P "__name__" 165 (.str "postcore.objects" 300)::(e3 P).take 22) 23))) 12 ((fO (dq.take 30))))
noncomputable abbrev S6 (w:World) (os:OsState):SharedT:=⟨T6 w.params,141,lf,⟨[]⟩,dr,378,os⟩
noncomputable def T7 (P:Params):BT:=dc 12 (pt (pt ((O P).take 162) 3 ((dO (en P "__name__" 165 (.str "postcore.objects" 300)::(e3 P).take 23) 24))) 12 ((fO (dq.take 33))))
noncomputable abbrev S7 (w:World) (os:OsState):SharedT:=⟨T7 w.params,162,lf,⟨[]⟩,dr,413,os⟩
noncomputable def T8 (P:Params):BT:=dc 12 (pt (pt ((O P).take 195) 3 ((dO (en P "__name__" 165 (.str "postcore.objects" 300)::(e3 P).take 24) 25))) 12 ((fO (dq.take 36))))
noncomputable abbrev S8 (w:World) (os:OsState):SharedT:=⟨T8 w.params,195,lf,⟨[]⟩,dr,464,os⟩
noncomputable def T9 (P:Params):BT:=dc 12 (pt (pt ((O P).take 252) 3 ((dO (en P "__name__" 165 (.str "postcore.objects" 300)::(e3 P).take 30) 31))) 12 ((fO (dq.take 54))))
noncomputable abbrev S9 (w:World) (os:OsState):SharedT:=⟨T9 w.params,252,lf,⟨[]⟩,dr,533,os⟩
noncomputable def Un (P:Params):BT:=dc 12 (pt (pt ((O P).take 337) 3 ((dO (en P "__name__" 165 (.str "postcore.flatparts" 623)::(e3 P).take 43) 44))) 12 ((fO (dq.take 90))))
noncomputable abbrev we (w:World) (os:OsState):SharedT:=⟨Un w.params,337,lf,⟨[]⟩,dr,633,os⟩
noncomputable def Tu (P:Params):BT:=dc 12 (pt (pt ((O P).take 389) 3 ((dO (en P "__name__" 165 (.str "postcore.flattexts" 641)::(e3 P).take 47) 48))) 12 ((fO (dq.take 99))))
noncomputable abbrev wD (w:World) (os:OsState):SharedT:=⟨Tu w.params,389,lf,⟨[]⟩,dr,710,os⟩
noncomputable def Tq (P:Params):BT:=dc 12 (pt (pt ((O P).take 395) 3 ((dO (en P "__name__" 165 (.str "postcore.scanner" 717)::(e3 P).take 48) 49))) 12 ((fO (dq.take 102))))
noncomputable abbrev wU (w:World) (os:OsState):SharedT:=⟨Tq w.params,395,lf,⟨[]⟩,dr,719,os⟩
noncomputable def Ur (P:Params):BT:=dc 12 (pt (pt ((O P).take 439) 3 ((dO (en P "__name__" 165 (.str "postcore.machine" 774)::(e3 P).take 50) 51))) 12 ((fO (dq.take 105))))
noncomputable abbrev xH (w:World) (os:OsState):SharedT:=⟨Ur w.params,439,lf,⟨[]⟩,dr,778,os⟩
noncomputable def Ud (P:Params):BT:=dc 12 (pt (pt (pt ((O P).take 488) 3 ((dO (en P "__name__" 165 (.str "postcore.machine" 774)::(e3 P).take 51) 52))) 12 ((fO (dq.take 108)))) 483 ((kO "Frame" [.type "object"] [.ref 483, .type "object"] 482 "Frame" [] [none,none,some (.str "Frame" 778),some (.str "Frame" 786),some (.builtin "object.__new__"),some (.bool true)])))
noncomputable abbrev yA (w:World) (os:OsState):SharedT:=⟨Ud w.params,488,lf,⟨[]⟩,dr,837,os⟩
noncomputable def Tr (P:Params):BT:=dc 12 (pt (pt (pt ((O P).take 528) 3 ((dO (en P "__name__" 165 (.str "postcore.machine" 774)::(e3 P).take 52) 53))) 12 ((fO (dq.take 111)))) 483 ((kO "Frame" [.type "object"] [.ref 483, .type "object"] 482 "Frame" [.ref 525] [none,none,some (.str "Frame" 778),some (.str "Frame" 786),some (.builtin "object.__new__"),some (.bool true)])))
noncomputable abbrev yc (w:World) (os:OsState):SharedT:=⟨Tr w.params,528,lf,⟨[]⟩,dr,889,os⟩
noncomputable def TQ (P:Params):BT:=dc 12 (pt (pt (pt ((O P).take 567) 3 ((dO (en P "__name__" 165 (.str "postcore.machine" 774)::(e3 P).take 53) 54))) 12 ((fO (dq.take 114)))) 483 ((kO "Frame" [.type "object"] [.ref 483, .type "object"] 482 "Frame" [.ref 525, .ref 564] [none,none,some (.str "Frame" 778),some (.str "Frame" 786),some (.builtin "object.__new__"),some (.bool true)])))
noncomputable abbrev yt (w:World) (os:OsState):SharedT:=⟨TQ w.params,567,lf,⟨[]⟩,dr,941,os⟩
noncomputable def Tj (P:Params):BT:=dc 12 (pt (pt ((O P).take 614) 3 ((dO (en P "__name__" 165 (.str "postcore.machine" 774)::(e3 P).take 55) 56))) 12 ((fO (dq.take 120))))
noncomputable abbrev yB (w:World) (os:OsState):SharedT:=⟨Tj w.params,614,lf,⟨[]⟩,dr,998,os⟩
noncomputable def Th (P:Params):BT:=dc 12 (pt (pt ((O P).take 834) 3 ((dO (en P "__name__" 165 (.str "postcore.machine" 774)::(e3 P).take 56) 57))) 12 ((fO (dq.take 123))))
noncomputable abbrev yF (w:World) (os:OsState):SharedT:=⟨Th w.params,834,lf,⟨[]⟩,dr,1308,os⟩
noncomputable def TA (P:Params):BT:=dc 12 (pt (pt ((O P).take 856) 3 ((dO (en P "__name__" 165 (.str "postcore.memory" 1308)::(e3 P).take 58) 59))) 12 ((fO (dq.take 126))))
noncomputable abbrev wB (w:World) (os:OsState):SharedT:=⟨TA w.params,856,lf,⟨[]⟩,dr,1382,os⟩
noncomputable def Tc (P:Params):BT:=dc 12 (pt (pt ((O P).take 877) 3 ((dO (en P "__name__" 165 (.str "postcore.memory" 1308)::(e3 P).take 59) 60))) 12 ((fO (dq.take 129))))
noncomputable abbrev xw (w:World) (os:OsState):SharedT:=⟨Tc w.params,877,lf,⟨[]⟩,dr,1417,os⟩
noncomputable def Ub (P:Params):BT:=dc 12 (pt (pt (pt ((O P).take 955) 3 ((dO (en P "__name__" 165 (.str "postcore.memory" 1308)::(e3 P).take 60) 61))) 12 ((fO (dq.take 132)))) 950 ((kO "BodyMaker" [.type "object"] [.ref 950, .type "object"] 949 "BodyMaker" [] [none,none,some (.str "BodyMaker" 1417),some (.str "BodyMaker" 1425),some (.builtin "object.__new__"),some (.bool true)])))
noncomputable abbrev yz (w:World) (os:OsState):SharedT:=⟨Ub w.params,955,lf,⟨[]⟩,dr,1518,os⟩
noncomputable def Tx (P:Params):BT:=dc 12 (pt (pt (pt ((O P).take 1058) 3 ((dO (en P "__name__" 165 (.str "postcore.memory" 1308)::(e3 P).take 61) 62))) 12 ((fO (dq.take 135)))) 1055 ((kO "BodyChanger" [.ref 950] [.ref 1055, .ref 950, .type "object"] 1054 "BodyChanger" [] [some (.ref 955),none,some (.str "BodyChanger" 1518),some (.str "BodyChanger" 1526),some (.builtin "object.__new__"),some (.bool true)])))
noncomputable abbrev yv (w:World) (os:OsState):SharedT:=⟨Tx w.params,1058,lf,⟨[]⟩,dr,1652,os⟩
noncomputable def UH (P:Params):BT:=dc 12 (pt (pt ((O P).take 1156) 3 ((dO (en P "__name__" 165 (.str "postcore.memory" 1308)::(e3 P).take 62) 63))) 12 ((fO (dq.take 138))))
noncomputable abbrev xb (w:World) (os:OsState):SharedT:=⟨UH w.params,1156,lf,⟨[]⟩,dr,1782,os⟩
noncomputable def Tf (P:Params):BT:=dc 12 (pt (pt ((O P).take 1163) 3 ((dO (en P "__name__" 165 (.str "postcore.stacks" 1794)::(e3 P).take 63) 64))) 12 ((fO (dq.take 141))))
noncomputable abbrev x4 (w:World) (os:OsState):SharedT:=⟨Tf w.params,1163,lf,⟨[]⟩,dr,1796,os⟩
noncomputable def TV (P:Params):BT:=dc 12 (pt (pt ((O P).take 1269) 3 ((dO (en P "__name__" 165 (.str "postcore.stacks" 1794)::(e3 P).take 64) 65))) 12 ((fO (dq.take 144))))
noncomputable abbrev x6 (w:World) (os:OsState):SharedT:=⟨TV w.params,1269,lf,⟨[]⟩,dr,1921,os⟩
section
variable (P:Params)
def CP:=dO (en P "__name__" 165 (.str "law_pq0919_01" 1921)::(e3 P).take 74) 75
end
noncomputable def Pn (P:Params):BT:=dc 12 (pt (pt ((O P).take 1329) 3 (CP P)) 12 ((fO (dq.take 174))))
noncomputable abbrev b7 (w:World) (os:OsState):SharedT:=⟨Pn w.params,1329,lf,⟨[]⟩,dr,2016,os⟩
end
noncomputable abbrev rT:=PySem.W.Fast.tw10110043849684766642 PySem.W.Fast.tw14364793385576792824
theorem p0 (w:World) (os:OsState):rT pw w 11 an 1 277 (S0 w os) (piecesOf (sl 0 4) E0 cE ⟨0,0,0,0⟩ [topFrame q0])=some (.next,S1 w os,cE,⟨6,0,9,24⟩):=by
 kernel_rfl
theorem p1 (w:World) (os:OsState):rT pw w 11 an 1 214 (S1 w os) (piecesOf (sl 4 1) E0 cE ⟨6,0,9,24⟩ [topFrame q0])=some (.next,S2 w os,cE,⟨10,0,11,8⟩):=by
 kernel_rfl
theorem p2 (w:World) (os:OsState):rT pw w 11 an 1 214 (S2 w os) (piecesOf (sl 5 1) E0 cE ⟨10,0,11,8⟩ [topFrame q0])=some (.next,S3 w os,cE,⟨12,0,13,8⟩):=by
 kernel_rfl
theorem p3 (w:World) (os:OsState):rT pw w 11 an 1 339 (S3 w os) (piecesOf (sl 6 8) E0 cE ⟨12,0,13,8⟩ [topFrame q0])=some (.next,S4 w os,cE,⟨42,0,42,9⟩):=by
 kernel_rfl
theorem p4 (w:World) (os:OsState):rT pw w 11 an 1 234 (S4 w os) (piecesOf (sl 14 1) E0 cE ⟨42,0,42,9⟩ [topFrame q0])=some (.next,S5 w os,cE,⟨43,0,49,28⟩):=by
 kernel_rfl
theorem p5 (w:World) (os:OsState):rT pw w 11 an 1 229 (S5 w os) (piecesOf (sl 15 1) E0 cE ⟨43,0,49,28⟩ [topFrame q0])=some (.next,S6 w os,cE,⟨50,0,56,26⟩):=by
 kernel_rfl
theorem p6 (w:World) (os:OsState):rT pw w 11 an 1 229 (S6 w os) (piecesOf (sl 16 1) E0 cE ⟨50,0,56,26⟩ [topFrame q0])=some (.next,S7 w os,cE,⟨57,0,63,26⟩):=by
 kernel_rfl
theorem p7 (w:World) (os:OsState):rT pw w 11 an 1 291 (S7 w os) (piecesOf (sl 17 1) E0 cE ⟨57,0,63,26⟩ [topFrame q0])=some (.next,S8 w os,cE,⟨64,0,78,58⟩):=by
 kernel_rfl
theorem p8 (w:World) (os:OsState):rT pw w 11 an 1 374 (S8 w os) (piecesOf (sl 18 6) E0 cE ⟨64,0,78,58⟩ [topFrame q0])=some (.next,S9 w os,cE,⟨97,0,98,58⟩):=by
 kernel_rfl
theorem p9 (w:World) (os:OsState):rT pw w 11 an 1 381 (S9 w os) (piecesOf (sl 24 14) E0 cE ⟨97,0,98,58⟩ [topFrame q0])=some (.next,we w os,cE,⟨149,0,149,10⟩):=by
 kernel_rfl
theorem UD (w:World) (os:OsState):rT pw w 11 an 1 397 (we w os) (piecesOf (sl 38 5) E0 cE ⟨149,0,149,10⟩ [topFrame q0])=some (.next,wD w os,cE,⟨169,0,203,20⟩):=by
 kernel_rfl
theorem SP (w:World) (os:OsState):rT pw w 11 an 1 38 (wD w os) (piecesOf (sl 43 2) E0 cE ⟨169,0,203,20⟩ [topFrame q0])=some (.next,wU w os,cE,⟨207,0,207,8⟩):=by
 kernel_rfl
theorem Uo (w:World) (os:OsState):rT pw w 11 an 1 397 (wU w os) (piecesOf (sl 45 3) E0 cE ⟨207,0,207,8⟩ [topFrame q0])=some (.next,xH w os,cE,⟨231,0,231,10⟩):=by
 kernel_rfl
theorem TZ (w:World) (os:OsState):rT pw w 11 an 1 349 (xH w os) (piecesOf (sl 48 1) E0 cE ⟨231,0,231,10⟩ [topFrame q0])=some (.next,yA w os,cE,⟨232,0,247,17⟩):=by
 kernel_rfl
theorem SU (w:World) (os:OsState):rT pw w 11 an 1 345 (yA w os) (piecesOf (sl 49 1) E0 cE ⟨232,0,247,17⟩ [topFrame q0])=some (.next,yc w os,cE,⟨248,0,268,26⟩):=by
 kernel_rfl
theorem Tn (w:World) (os:OsState):rT pw w 11 an 1 344 (yc w os) (piecesOf (sl 50 1) E0 cE ⟨248,0,268,26⟩ [topFrame q0])=some (.next,yt w os,cE,⟨269,0,292,73⟩):=by
 kernel_rfl
theorem Uc (w:World) (os:OsState):rT pw w 11 an 1 372 (yt w os) (piecesOf (sl 51 2) E0 cE ⟨269,0,292,73⟩ [topFrame q0])=some (.next,yB w os,cE,⟨308,0,312,16⟩):=by
 kernel_rfl
theorem SX (w:World) (os:OsState):rT pw w 11 an 1 1180 (yB w os) (piecesOf (sl 53 1) E0 cE ⟨308,0,312,16⟩ [topFrame q0])=some (.next,yF w os,cE,⟨313,0,522,16⟩):=by
 kernel_rfl
theorem UI (w:World) (os:OsState):rT pw w 11 an 1 291 (yF w os) (piecesOf (sl 54 3) E0 cE ⟨313,0,522,16⟩ [topFrame q0])=some (.next,wB w os,cE,⟨525,0,541,20⟩):=by
 kernel_rfl
theorem UG (w:World) (os:OsState):rT pw w 11 an 1 229 (wB w os) (piecesOf (sl 57 1) E0 cE ⟨525,0,541,20⟩ [topFrame q0])=some (.next,xw w os,cE,⟨542,0,548,24⟩):=by
 kernel_rfl
theorem Uu (w:World) (os:OsState):rT pw w 11 an 1 544 (xw w os) (piecesOf (sl 58 1) E0 cE ⟨542,0,548,24⟩ [topFrame q0])=some (.next,yz w os,cE,⟨549,0,586,17⟩):=by
 kernel_rfl
theorem SS (w:World) (os:OsState):rT pw w 11 an 1 643 (yz w os) (piecesOf (sl 59 1) E0 cE ⟨549,0,586,17⟩ [topFrame q0])=some (.next,yv w os,cE,⟨587,0,626,17⟩):=by
 kernel_rfl
theorem Uh (w:World) (os:OsState):rT pw w 11 an 1 631 (yv w os) (piecesOf (sl 60 1) E0 cE ⟨587,0,626,17⟩ [topFrame q0])=some (.next,xb w os,cE,⟨627,0,691,17⟩):=by
 kernel_rfl
theorem TG (w:World) (os:OsState):rT pw w 11 an 1 44 (xb w os) (piecesOf (sl 61 2) E0 cE ⟨627,0,691,17⟩ [topFrame q0])=some (.next,x4 w os,cE,⟨712,0,712,8⟩):=by
 kernel_rfl
theorem Uv (w:World) (os:OsState):rT pw w 11 an 1 664 (x4 w os) (piecesOf (sl 63 1) E0 cE ⟨712,0,712,8⟩ [topFrame q0])=some (.next,x6 w os,cE,⟨713,0,768,36⟩):=by
 kernel_rfl
theorem To (w:World) (os:OsState):rT pw w 11 an 1 313 (x6 w os) (piecesOf (sl 64 11) E0 cE ⟨713,0,768,36⟩ [topFrame q0])=some (.next,b7 w os,cE,⟨879,0,894,47⟩):=by
 kernel_rfl
theorem Ka:rT=segRunT treeTable:=by
 show PySem.W.Fast.tw10110043849684766642 PySem.W.Fast.tw14364793385576792824=_
 rw [PySem.W.Fast.te10110043849684766642,PySem.W.Fast.te14364793385576792824]
theorem IG (a m:Nat):c0.drop a=sl a m++c0.drop (a+m):=by
 rw [←List.drop_drop];exact (List.take_append_drop m (c0.drop a)).symm
theorem go {w:World} (n N M a m b:Nat) (s s':SharedT) (p p':Pos) (r:Shared) (hM:n+N=M) (hb:a+m=b) (h:rT pw w 11 an 1 n s (piecesOf (sl a m) E0 cE p [topFrame q0])=some (.next,s',cE,p'))
  (k:topRun treeTable pw w 11 an N s'.abs (restOf (c0.drop b) E0 cE p' [topFrame q0])=some r):
  topRun treeTable pw w 11 an M s.abs (restOf (c0.drop a) E0 cE p [topFrame q0])=some r:=by
 subst hM hb
 rw [Ka] at h
 rw [IG a m]
 exact piece_app (segRun_of h) k
noncomputable abbrev H1 (P:Params):Heap:=absHeap (Pn P) 1329 lf
noncomputable abbrev B0:List Frame:= [topFrame q0]
noncomputable def Ha (P:Params):Heap:=⟨⟨[boot_o_0 P,boot_o_1 P,boot_o_2 P,boot_o_3 P,boot_o_4 P,boot_o_5 P,boot_o_6 P,boot_o_7 P,boot_o_8 P,boot_o_9 P,boot_o_10 P,Pc,BV,OT,OW]⟩,lf⟩
theorem pre (w:World) (os:OsState):PySem.W.Fast.tw15667345088766844465 PySem.W.Fast.tw14364793385576792824 pw w 11 an 12 ⟨boot_heap w.params,⟨[]⟩,boot_drawn,boot_toks,os⟩ (topStub pw)=
  some (⟨Ha w.params,⟨[]⟩,dr,187,os⟩,⟨PySem.W.Fast.tw11892475500146522536 PySem.W.Fast.tw14364793385576792824 cE,cE,q0,B0⟩):=by
 kernel_rfl
theorem block (w:World) (os:OsState):segRun treeTable pw w 11 an 1 1 ⟨Ha w.params,⟨[]⟩,dr,187,os⟩ (blockOf c0 E0 cE q0 B0)=some (.next,(S0 w os).abs,cE,q0):=by
 kernel_rfl
theorem SY (w:World) (os:OsState) (p:Pos):topRun treeTable pw w 11 an 2 (b7 w os).abs (restOf (c0.drop 75) E0 cE p B0)=some (b7 w os).abs:=by
 kernel_rfl
theorem TM (w:World) (os:OsState):topRun treeTable pw w 11 an 315 (x6 w os).abs (restOf (c0.drop 64) E0 cE ⟨713,0,768,36⟩ B0)=some (b7 w os).abs:=
 go 313 2 315 64 11 75 (x6 w os) (b7 w os) ⟨713,0,768,36⟩ ⟨879,0,894,47⟩ (b7 w os).abs (by decide) (by decide) (To w os) (SY w os ⟨879,0,894,47⟩)
theorem UA (w:World) (os:OsState):topRun treeTable pw w 11 an 979 (x4 w os).abs (restOf (c0.drop 63) E0 cE ⟨712,0,712,8⟩ B0)=some (b7 w os).abs:=
 go 664 315 979 63 1 64 (x4 w os) (x6 w os) ⟨712,0,712,8⟩ ⟨713,0,768,36⟩ (b7 w os).abs (by decide) (by decide) (Uv w os) (TM w os)
theorem TR (w:World) (os:OsState):topRun treeTable pw w 11 an 1023 (xb w os).abs (restOf (c0.drop 61) E0 cE ⟨627,0,691,17⟩ B0)=some (b7 w os).abs:=
 go 44 979 1023 61 2 63 (xb w os) (x4 w os) ⟨627,0,691,17⟩ ⟨712,0,712,8⟩ (b7 w os).abs (by decide) (by decide) (TG w os) (UA w os)
theorem TY (w:World) (os:OsState):topRun treeTable pw w 11 an 1654 (yv w os).abs (restOf (c0.drop 60) E0 cE ⟨587,0,626,17⟩ B0)=some (b7 w os).abs:=
 go 631 1023 1654 60 1 61 (yv w os) (xb w os) ⟨587,0,626,17⟩ ⟨627,0,691,17⟩ (b7 w os).abs (by decide) (by decide) (Uh w os) (TR w os)
theorem UK (w:World) (os:OsState):topRun treeTable pw w 11 an 2297 (yz w os).abs (restOf (c0.drop 59) E0 cE ⟨549,0,586,17⟩ B0)=some (b7 w os).abs:=
 go 643 1654 2297 59 1 60 (yz w os) (yv w os) ⟨549,0,586,17⟩ ⟨587,0,626,17⟩ (b7 w os).abs (by decide) (by decide) (SS w os) (TY w os)
theorem jO (w:World) (os:OsState):topRun treeTable pw w 11 an 2841 (xw w os).abs (restOf (c0.drop 58) E0 cE ⟨542,0,548,24⟩ B0)=some (b7 w os).abs:=
 go 544 2297 2841 58 1 59 (xw w os) (yz w os) ⟨542,0,548,24⟩ ⟨549,0,586,17⟩ (b7 w os).abs (by decide) (by decide) (Uu w os) (UK w os)
theorem TU (w:World) (os:OsState):topRun treeTable pw w 11 an 3070 (wB w os).abs (restOf (c0.drop 57) E0 cE ⟨525,0,541,20⟩ B0)=some (b7 w os).abs:=
 go 229 2841 3070 57 1 58 (wB w os) (xw w os) ⟨525,0,541,20⟩ ⟨542,0,548,24⟩ (b7 w os).abs (by decide) (by decide) (UG w os) (jO w os)
theorem Te (w:World) (os:OsState):topRun treeTable pw w 11 an 3361 (yF w os).abs (restOf (c0.drop 54) E0 cE ⟨313,0,522,16⟩ B0)=some (b7 w os).abs:=
 go 291 3070 3361 54 3 57 (yF w os) (wB w os) ⟨313,0,522,16⟩ ⟨525,0,541,20⟩ (b7 w os).abs (by decide) (by decide) (UI w os) (TU w os)
theorem SQ (w:World) (os:OsState):topRun treeTable pw w 11 an 4541 (yB w os).abs (restOf (c0.drop 53) E0 cE ⟨308,0,312,16⟩ B0)=some (b7 w os).abs:=
 go 1180 3361 4541 53 1 54 (yB w os) (yF w os) ⟨308,0,312,16⟩ ⟨313,0,522,16⟩ (b7 w os).abs (by decide) (by decide) (SX w os) (Te w os)
theorem U8 (w:World) (os:OsState):topRun treeTable pw w 11 an 4913 (yt w os).abs (restOf (c0.drop 51) E0 cE ⟨269,0,292,73⟩ B0)=some (b7 w os).abs:=
 go 372 4541 4913 51 2 53 (yt w os) (yB w os) ⟨269,0,292,73⟩ ⟨308,0,312,16⟩ (b7 w os).abs (by decide) (by decide) (Uc w os) (SQ w os)
theorem TX (w:World) (os:OsState):topRun treeTable pw w 11 an 5257 (yc w os).abs (restOf (c0.drop 50) E0 cE ⟨248,0,268,26⟩ B0)=some (b7 w os).abs:=
 go 344 4913 5257 50 1 51 (yc w os) (yt w os) ⟨248,0,268,26⟩ ⟨269,0,292,73⟩ (b7 w os).abs (by decide) (by decide) (Tn w os) (U8 w os)
theorem Ta (w:World) (os:OsState):topRun treeTable pw w 11 an 5602 (yA w os).abs (restOf (c0.drop 49) E0 cE ⟨232,0,247,17⟩ B0)=some (b7 w os).abs:=
 go 345 5257 5602 49 1 50 (yA w os) (yc w os) ⟨232,0,247,17⟩ ⟨248,0,268,26⟩ (b7 w os).abs (by decide) (by decide) (SU w os) (TX w os)
theorem Gn (w:World) (os:OsState):topRun treeTable pw w 11 an 5951 (xH w os).abs (restOf (c0.drop 48) E0 cE ⟨231,0,231,10⟩ B0)=some (b7 w os).abs:=
 go 349 5602 5951 48 1 49 (xH w os) (yA w os) ⟨231,0,231,10⟩ ⟨232,0,247,17⟩ (b7 w os).abs (by decide) (by decide) (TZ w os) (Ta w os)
theorem TN (w:World) (os:OsState):topRun treeTable pw w 11 an 6348 (wU w os).abs (restOf (c0.drop 45) E0 cE ⟨207,0,207,8⟩ B0)=some (b7 w os).abs:=
 go 397 5951 6348 45 3 48 (wU w os) (xH w os) ⟨207,0,207,8⟩ ⟨231,0,231,10⟩ (b7 w os).abs (by decide) (by decide) (Uo w os) (Gn w os)
theorem Ue (w:World) (os:OsState):topRun treeTable pw w 11 an 6386 (wD w os).abs (restOf (c0.drop 43) E0 cE ⟨169,0,203,20⟩ B0)=some (b7 w os).abs:=
 go 38 6348 6386 43 2 45 (wD w os) (wU w os) ⟨169,0,203,20⟩ ⟨207,0,207,8⟩ (b7 w os).abs (by decide) (by decide) (SP w os) (TN w os)
theorem TF (w:World) (os:OsState):topRun treeTable pw w 11 an 6783 (we w os).abs (restOf (c0.drop 38) E0 cE ⟨149,0,149,10⟩ B0)=some (b7 w os).abs:=
 go 397 6386 6783 38 5 43 (we w os) (wD w os) ⟨149,0,149,10⟩ ⟨169,0,203,20⟩ (b7 w os).abs (by decide) (by decide) (UD w os) (Ue w os)
theorem r9 (w:World) (os:OsState):topRun treeTable pw w 11 an 7164 (S9 w os).abs (restOf (c0.drop 24) E0 cE ⟨97,0,98,58⟩ B0)=some (b7 w os).abs:=
 go 381 6783 7164 24 14 38 (S9 w os) (we w os) ⟨97,0,98,58⟩ ⟨149,0,149,10⟩ (b7 w os).abs (by decide) (by decide) (p9 w os) (TF w os)
theorem r8 (w:World) (os:OsState):topRun treeTable pw w 11 an 7538 (S8 w os).abs (restOf (c0.drop 18) E0 cE ⟨64,0,78,58⟩ B0)=some (b7 w os).abs:=
 go 374 7164 7538 18 6 24 (S8 w os) (S9 w os) ⟨64,0,78,58⟩ ⟨97,0,98,58⟩ (b7 w os).abs (by decide) (by decide) (p8 w os) (r9 w os)
theorem r7 (w:World) (os:OsState):topRun treeTable pw w 11 an 7829 (S7 w os).abs (restOf (c0.drop 17) E0 cE ⟨57,0,63,26⟩ B0)=some (b7 w os).abs:=
 go 291 7538 7829 17 1 18 (S7 w os) (S8 w os) ⟨57,0,63,26⟩ ⟨64,0,78,58⟩ (b7 w os).abs (by decide) (by decide) (p7 w os) (r8 w os)
theorem r6 (w:World) (os:OsState):topRun treeTable pw w 11 an 8058 (S6 w os).abs (restOf (c0.drop 16) E0 cE ⟨50,0,56,26⟩ B0)=some (b7 w os).abs:=
 go 229 7829 8058 16 1 17 (S6 w os) (S7 w os) ⟨50,0,56,26⟩ ⟨57,0,63,26⟩ (b7 w os).abs (by decide) (by decide) (p6 w os) (r7 w os)
theorem r5 (w:World) (os:OsState):topRun treeTable pw w 11 an 8287 (S5 w os).abs (restOf (c0.drop 15) E0 cE ⟨43,0,49,28⟩ B0)=some (b7 w os).abs:=
 go 229 8058 8287 15 1 16 (S5 w os) (S6 w os) ⟨43,0,49,28⟩ ⟨50,0,56,26⟩ (b7 w os).abs (by decide) (by decide) (p5 w os) (r6 w os)
theorem r4 (w:World) (os:OsState):topRun treeTable pw w 11 an 8521 (S4 w os).abs (restOf (c0.drop 14) E0 cE ⟨42,0,42,9⟩ B0)=some (b7 w os).abs:=
 go 234 8287 8521 14 1 15 (S4 w os) (S5 w os) ⟨42,0,42,9⟩ ⟨43,0,49,28⟩ (b7 w os).abs (by decide) (by decide) (p4 w os) (r5 w os)
theorem r3 (w:World) (os:OsState):topRun treeTable pw w 11 an 8860 (S3 w os).abs (restOf (c0.drop 6) E0 cE ⟨12,0,13,8⟩ B0)=some (b7 w os).abs:=
 go 339 8521 8860 6 8 14 (S3 w os) (S4 w os) ⟨12,0,13,8⟩ ⟨42,0,42,9⟩ (b7 w os).abs (by decide) (by decide) (p3 w os) (r4 w os)
theorem r2 (w:World) (os:OsState):topRun treeTable pw w 11 an 9074 (S2 w os).abs (restOf (c0.drop 5) E0 cE ⟨10,0,11,8⟩ B0)=some (b7 w os).abs:=
 go 214 8860 9074 5 1 6 (S2 w os) (S3 w os) ⟨10,0,11,8⟩ ⟨12,0,13,8⟩ (b7 w os).abs (by decide) (by decide) (p2 w os) (r3 w os)
theorem r1 (w:World) (os:OsState):topRun treeTable pw w 11 an 9288 (S1 w os).abs (restOf (c0.drop 4) E0 cE ⟨6,0,9,24⟩ B0)=some (b7 w os).abs:=
 go 214 9074 9288 4 1 5 (S1 w os) (S2 w os) ⟨6,0,9,24⟩ ⟨10,0,11,8⟩ (b7 w os).abs (by decide) (by decide) (p1 w os) (r2 w os)
theorem r0 (w:World) (os:OsState):topRun treeTable pw w 11 an 9565 (S0 w os).abs (restOf (c0.drop 0) E0 cE ⟨0,0,0,0⟩ B0)=some (b7 w os).abs:=
 go 277 9288 9565 0 4 4 (S0 w os) (S1 w os) ⟨0,0,0,0⟩ ⟨6,0,9,24⟩ (b7 w os).abs (by decide) (by decide) (p0 w os) (r1 w os)
theorem run (w:World) (os:OsState):topRun treeTable pw w 11 an 9578 ⟨boot_heap w.params,⟨[]⟩,boot_drawn,boot_toks,os⟩ (topStub pw)=some ⟨H1 w.params,⟨[]⟩,dr,2016,os⟩:=by
 have h1:=pre w os
 rw [←PySem.W.Fast.te15667345088766844465,←PySem.W.Fast.te14364793385576792824,←PySem.W.Fast.te11892475500146522536] at h1
 have h2:=piece_block (block w os) (r0 w os)
 exact go_top h1 h2
noncomputable def qv:Program:={pw with main:={pw.main with body:= [sA 74]}}
noncomputable def loose:List Str:= [.ofString "_wall", .ofString "GRAIN", .ofString "PostError", .ofString "PsError", .ofString "Quit", .ofString "BadText", .ofString "octets_of", .ofString "hex_octets", .ofString "decimal_octets", .ofString "RUN_ONLY", .ofString "READ_ONLY", .ofString "UNLIMITED", .ofString "Thing", .ofString "Text", .ofString "Row", .ofString "DictBody", .ofString "Span", .ofString "boolean", .ofString "name", .ofString "is_number", .ofString "in_millionths", .ofString "is_in_array", .ofString "body_of", .ofString "access_of", .ofString "can_read", .ofString "can_run", .ofString "check_part", .ofString "part_of", .ofString "with_span", .ofString "is_text_span", .ofString "item", .ofString "octets_of_span", .ofString "thing_octets", .ofString "key_of", .ofString "BODY_KINDS", .ofString "flat_key", .ofString "MOST_DEPTH", .ofString "flat_value_octets", .ofString "OperandTeller", .ofString "operand_octets", .ofString "OctetSource", .ofString "FIRST_SEED", .ofString "Frame", .ofString "ProcFrame", .ofString "SourceFrame", .ofString "ThingFrame", .ofString "machine_lookup", .ofString "MachineCore", .ofString "MOST_COST", .ofString "Limits", .ofString "VmSave", .ofString "BodyMaker", .ofString "BodyChanger", .ofString "Memory", .ofString "memory_put_back", .ofString "Stack", .ofString "_law_deck", .ofString "_law_draw", .ofString "_law_item", .ofString "_law_sheet", .ofString "_law_copied", .ofString "_law_turned", .ofString "_law_things", .ofString "_law_machine", .ofString "_law_first_unlike"]
theorem KZ (w:World):((boot_heap w.params).isNs mainGlobals&&(⟨[]⟩:Array GenState).size==0,(boot_heap w.params).objs.size,(boot_heap w.params).nsMap mainGlobals "__annotations__")=(true,11,an):=by
 kernel_rfl
theorem Nd (w:World) (os:OsState):(staticsOk (importedModules pw.main.body) (boot_heap w.params) (H1 w.params)&&namesBound pw (H1 w.params)&&gensDone ⟨H1 w.params,⟨[]⟩,dr,2016,os⟩&&laidKept (boot_heap w.params) (H1 w.params))=true:=by
 kernel_rfl
theorem Ol (w:World):(fencedOpening treeTable pw w 10000).map (λs=>(s.heap,s.gens,s.drawn,s.toks))=some (boot_heap w.params,⟨[]⟩,boot_drawn,boot_toks):=by
 refine boot_open (by kernel_rfl) (by decide) (λs=>by kernel_rfl) w
theorem Km (w:World) (os:OsState):PySem.W.Fast.tw4187177175401517315 qv loose (importedModules pw.main.body) (λ_=>true) true ⟨H1 w.params,⟨[]⟩,dr,2016,os⟩=openGood qv loose:=by
 kernel_rfl
abbrev dC:OpenLaw:=PySem.Challenge.rw_pq0919_01
theorem Lm (w:World) (os:OsState):openSeen qv loose (importedModules pw.main.body) (λ_=>true) true ⟨H1 w.params,⟨[]⟩,dr,2016,os⟩=openGood qv loose:=by
 rw [PySem.W.Fast.te4187177175401517315];exact Km w os
theorem left:LeftO dC.row.prog qv loose (λ_=>true) (λs=>s.heap) (λw=>H1 w.params) 10000:=
 LeftO.of_pieces (p:=pw) (H₀:=boot_heap) (H₁:=H1) (gs₀:=⟨[]⟩) (gs₁:=⟨[]⟩) (d₀:=boot_drawn) (d₁:=dr) (k₀:=boot_toks) (k₁:=2016) (m₀:=11) (ann:=an) (M:=9578) Ol KZ run (by decide)
  (λw=>funext λos=>Prod.ext (Nd w os) (Prod.ext (Lm w os) rfl))
noncomputable def MO:Stmt->Pos
 | .FunctionDef _ _ _ _ _ _ _ _ _ p=>p
 |_=>q0
noncomputable def nW:DefRec:=⟨OP (sA 74),Pl (sA 74),OF (sA 74),OO (sA 74),MO (sA 74)⟩
theorem QB:defOf qv dC.row.name=some (nW, []):=by kernel_rfl
theorem E5:dC.row.prog.theDef dC.row.name=some (nW.params,nW.body,nW.scope):=by kernel_rfl
theorem Fu:kwWritten? nW.params.kwonlyargs nW.params.kw_defaults=some []:=by kernel_rfl
set_option maxHeartbeats 4000000 in
theorem Ti:(chainsOk qv&&opensWell dC.row.prog&&(frees dC.row.toRowW&&dC.row.within.isEmpty))=true:=by
 repeat' with_reducible apply PySem.W.look_both
 all_goals decide+kernel
theorem bare:dC.row.prog.bare:=⟨rfl,rfl,rfl,rfl,rfl,Hu⟩
theorem prom:dC.row.toRowW.promised:=by w_witness2
noncomputable def K0 (P:Params):Frag:= [(3,CP P),(82,Ph),(83,Pb),(89,OY),(90,Po),(96,OH),(97,P0),(105,GB),(111,II),(112,FU),(114,FN P),(115,H0),(132,HV),(133,Gw),(135,Ic P),(136,Hn),(153,Il),(154,HN),(156,Hx P),(157,HP),(174,IT),(175,Fv),(186,GI),(187,HD),(189,Iw P),(190,GS),(207,Hy),(208,FF),(210,Fx P),(211,I9),(250,Hk),(251,Ga),(257,HZ),(258,Gz),(264,Fh),(265,FY),(336,Ag),(342,GC),(343,Gk),(347,Ii),(348,Hf),(361,Gm),(362,Ho),(368,HK),(369,GP),(375,GQ),(376,H6),(380,Ip),(381,FE),(383,Ig P),(384,Hq),(389,IC),(393,H5),(394,Gx),(626,Iu),(627,IK),(633,IU),(634,HL),(828,IF P),(829,GW),(841,HE),(847,Ft),(848,Iv),(850,HG P),(851,GJ),(889,I6),(890,FP),(949,Gs P),(950,HA),(1054,BL P),(1055,Ct),(1152,BX P),(1153,CJ),(1175,BK),(1176,Bw),(1190,Cz),(1191,CL),(1263,C0 P),(1264,CQ),(1272,CT),(1273,CO),(1279,Bz),(1280,BN),(1286,Cr),(1287,C8),(1291,CM),(1292,Ce),(1296,CN),(1297,BF),(1301,C6),(1302,CU),(1308,BZ),(1309,Ca),(1315,CR),(1316,CH),(1320,Cy),(1321,Cc),(1327,CD),(1328,CC)]
theorem Ng (P:Params):(K0 P).In (H1 P):=Frag.in_of (as:= [3,82,83,89,90,96,97,105,111,112,114,115,132,133,135,136,153,154,156,157,174,175,186,187,189,190,207,208,210,211,250,251,257,258,264,265,336,342,343,347,348,361,362,368,369,375,376,380,381,383,384,389,393,394,626,627,633,634,828,829,841,847,848,850,851,889,890,949,950,1054,1055,1152,1153,1175,1176,1190,1191,1263,1264,1272,1273,1279,1280,1286,1287,1291,1292,1296,1297,1301,1302,1308,1309,1315,1316,1320,1321,1327,1328]) (by kernel_rfl) (by kernel_rfl)
--tG:30:83,28:90,27:97,18:251,23:258,115:265,117:343,32:348,100:394,94:1273,48:1280,57:1287,95:1292,96:1297,97:1302,73:1309,98:1316,102:1321,162:1328
--ub:65:115:112,69:136:133,70:157:154,71:190:175,67:211:208,36:384:362,81:829:627,79:1153:890,78:851:848,80:1264:1176
--xm:71.121:187,36.40:369,36.116:376,36.120:381,81.127:634,80.82:1191
--BODY_KINDS:336
noncomputable def lI:List Addr:= [83,90,97,251,258,265,343,348,394,1273,1280,1287,1292,1297,1302,1309,1316,1321,1328,112,133,154,175,187,208,362,369,376,381,627,634,890,848,1176,1191]
noncomputable def getFn (K:Frag) (a:Addr):Option (FuncData×List Stmt):=match K.lookup a with
 |some o=>match o.data with
  | .func fd=>match fd.body with
   | .stmts b=>some (fd,b)
   |_=>none
  |_=>none
 |none=>none
theorem DB {K:Frag} {a:Addr} {p:FuncData×List Stmt} (h:getFn K a=some p): ∃o,K.lookup a=some o/\o.data= .func p.1/\p.1.body= .stmts p.2:=by
 unfold getFn at h
 split at h
 ·rename_i o ho
  split at h
  ·rename_i fd hd
   split at h
   ·rename_i b hb;cases h;exact ⟨o,ho,hd,hb⟩
   ·cases h
  ·cases h
 ·cases h
noncomputable def Pm (a:AV) (v:Value):Bool:=match a with
 | .int i=>Value.isInt i v
 | .bool b=>v== .bool b
 |_=>false
noncomputable def Av:List AV->List Value->Bool
 | [],vs=>vs.isEmpty
 |a::r,vs=>match vs with
  |v::s=>Pm a v&&Av r s
  | []=>false
theorem Nt {G:Gl} {a:AV} {v:Value} (h:Pm a v=true):VR G [] a v:=by
 cases a with
 |int i=>exact Value.isInt_shape h
 |bool b=>exact eq_of_beq h
 |_=>exact nomatch h
theorem Hz {G:Gl} {as:List AV}: ∀{vs:List Value},Av as vs=true->ae (VR G []) as vs:=by
 induction as with
 |nil=>intro vs h;cases vs with
  |nil=>exact .nil
  |cons _ _=>exact nomatch h
 |cons a as ih=>intro vs h;cases vs with
  |nil=>exact nomatch h
  |cons v vs=>exact .cons (Nt (Bool.and_eq_true_iff.mp h).1) (ih (Bool.and_eq_true_iff.mp h).2)
noncomputable def dflB (K:Frag) (fn:Fn) (v:Value):Bool:=match v with
 | .none=>fn.cW.isEmpty
 | .ref T=>match K.lookup T with
  |some oT=>match oT.data with
   | .seq items _=>Av fn.cW items.toList
   |_=>false
  |none=>false
 |_=>false
theorem FO {G:Gl} {fn:Fn} {v:Value} (h:dflB G.K fn v=true):(v= .none/\fn.cW= [])∨ ∃T oT items n,v= .ref T/\G.K.lookup T=some oT/\oT.data= .seq items n/\ae (VR G []) fn.cW items.toList:=by
 unfold dflB at h
 split at h
 ·exact .inl ⟨rfl,List.isEmpty_iff.mp h⟩
 ·rename_i T
  split at h
  ·rename_i oT ho
   split at h
   ·rename_i items n hd;exact .inr ⟨T,oT,items,n,rfl,ho,hd,Hz h⟩
   ·cases h
  ·cases h
 ·cases h
noncomputable abbrev Ui (fd:FuncData) (fn:Fn):Prop:=fd.scope.isCoroutine=false/\fd.scope.isGenerator=false/\fd.scope.kind= .function/\fd.closure.isEmpty=true/\fd.globals=mainGlobals/\fd.builtins=builtinsNs/\fd.params.posonlyargs.isEmpty=true/\fd.params.kwonlyargs.isEmpty=true/\
 fd.params.vararg.isNone=true/\fd.params.kwarg.isNone=true/\(fd.params.args.map (·.arg)).map aM=fn.params.map some/\(fd.params.args.map (·.arg)).Nodup/\fn.cW.length≤fn.params.length/\
 (fd.params.args.map (·.arg)).all (λp=>fd.scope.names.lookup p==some .local||fd.scope.names.lookup p==some .cell)=true/\fd.scope.names.all (λx=>x.2 != .free)=true
theorem yG {ps:List Str}: ∀{cs:List Nat},ps.map aM=cs.map some->ae (λp c=>aM p=some c) ps cs:=by
 induction ps with
 |nil=>intro cs h;cases cs with
  |nil=>exact .nil
  |cons _ _=>exact nomatch h
 |cons p ps ih=>intro cs h;cases cs with
  |nil=>exact nomatch h
  |cons c cs=>exact .cons (List.cons.inj h).1 (ih (List.cons.inj h).2)
noncomputable def vO (K:Frag) (a:Addr):Option (List IS):=match getFn K a with
 |some p=>(qW p.1.scope.names p.2).map (·.1)
 |none=>none
noncomputable def I4 (K:Frag) (a:Addr) (fn:Fn):Bool:=match getFn K a with
 |some p=>codeIn K p.1.code p.1.qualname&&dflB K fn p.1.defaults&&decide (Ui p.1 fn)
 |none=>false
theorem Mj {G:Gl} {a:Addr} {fn:Fn} (h1:vO G.K a=some fn.body) (h2:I4 G.K a fn=true):vp G eg fn a:=by
 unfold vO at h1
 unfold I4 at h2
 cases hg:getFn G.K a with
 |none=>rw [hg] at h1;exact nomatch h1
 |some p=>
  rw [hg] at h1 h2
  obtain ⟨h2,h3⟩:=Bool.and_eq_true_iff.mp h2
  obtain ⟨h4,h5⟩:=Bool.and_eq_true_iff.mp h2
  obtain ⟨o,e1,e2,e3⟩:=DB hg
  obtain ⟨c1,c2,c3,c4,c5,c6,c7,c8,c9,VV,VW,VX,VY,VZ,W0⟩:=of_decide_eq_true h3
  exact ⟨o,p.1,p.2,e1,e2,e3,h4,c1,c2,c3,List.isEmpty_iff.mp c4,c5,c6,List.isEmpty_iff.mp c7,List.isEmpty_iff.mp c8,Option.isNone_iff_eq_none.mp c9,Option.isNone_iff_eq_none.mp VV,yG VW,VX,FO h5,VY,KC h1,
   λp hp=>(Bool.or_eq_true_iff.mp (List.all_eq_true.mp VZ p hp)).imp beq_iff_eq.mp beq_iff_eq.mp,λx hx=>bne_iff_ne.mp (List.all_eq_true.mp W0 x hx)⟩
variable {P:Params}
theorem Um:lI.map (vO (K0 P))=yx.map λfn=>some fn.body:=by kernel_rfl
theorem Ux:(lI.zip yx).all (λp=>I4 (K0 P) p.1 p.2)=true:=by kernel_rfl
theorem LJ {G:Gl} (hK:G.K=K0 P) (f:Nat) (a:Addr) (h:lI[f]?=some a): ∃fn,x7 f=some fn/\vp G eg fn a:=by
 have e:(lI.map (vO (K0 P)))[f]?=(yx.map λfn=>some fn.body)[f]?:=congrArg (·[f]?) Um
 rw [List.getElem?_map,List.getElem?_map,h] at e
 obtain ⟨fn,h1,h2⟩:=Option.map_eq_some_iff.mp e.symm
 have hm:(a,fn)∈lI.zip yx:=List.mem_of_getElem? (List.getElem?_zip_eq_some.mpr ⟨h,h1⟩)
 exact ⟨fn,h1,Mj (hK▸h2.symm) (hK▸List.all_eq_true.mp Ux _ hm)⟩
theorem Mc:bX (λx f=> ∃a,globV (K0 P) x=some (.ref a)/\lI[f]?=some a/\keepIn (K0 P) (.ref a)=true) IJ:=
 .cons ⟨83,by kernel_rfl,rfl,by kernel_rfl⟩<|
 .cons ⟨90,by kernel_rfl,rfl,by kernel_rfl⟩<|
 .cons ⟨97,by kernel_rfl,rfl,by kernel_rfl⟩<|
 .cons ⟨251,by kernel_rfl,rfl,by kernel_rfl⟩<|
 .cons ⟨258,by kernel_rfl,rfl,by kernel_rfl⟩<|
 .cons ⟨265,by kernel_rfl,rfl,by kernel_rfl⟩<|
 .cons ⟨343,by kernel_rfl,rfl,by kernel_rfl⟩<|
 .cons ⟨348,by kernel_rfl,rfl,by kernel_rfl⟩<|
 .cons ⟨394,by kernel_rfl,rfl,by kernel_rfl⟩<|
 .cons ⟨1273,by kernel_rfl,rfl,by kernel_rfl⟩<|
 .cons ⟨1280,by kernel_rfl,rfl,by kernel_rfl⟩<|
 .cons ⟨1287,by kernel_rfl,rfl,by kernel_rfl⟩<|
 .cons ⟨1292,by kernel_rfl,rfl,by kernel_rfl⟩<|
 .cons ⟨1297,by kernel_rfl,rfl,by kernel_rfl⟩<|
 .cons ⟨1302,by kernel_rfl,rfl,by kernel_rfl⟩<|
 .cons ⟨1309,by kernel_rfl,rfl,by kernel_rfl⟩<|
 .cons ⟨1316,by kernel_rfl,rfl,by kernel_rfl⟩<|
 .cons ⟨1321,by kernel_rfl,rfl,by kernel_rfl⟩<|
 .cons ⟨1328,by kernel_rfl,rfl,by kernel_rfl⟩ .nil
structure Td (P:Params) (x f:Nat) (ca fI:Addr):Prop where
 glob:globV (K0 P) x=some (.ref ca)
 makes:makesIn (K0 P) ca=true
 find:findIn (K0 P) (.ref ca) "__init__"=some (some (.ref fI))
 typ:typeIn (K0 P) (.ref fI)=some (.type "function")
 fa:lI[f]?=some fI
 keep:keepIn (K0 P) (.ref ca)=true
theorem Kv:bX (λx f=> ∃ca fI,Td P x f ca fI) Gy:=
 .cons ⟨115,112,by kernel_rfl,by kernel_rfl,by kernel_rfl,by kernel_rfl,rfl,by kernel_rfl⟩<|
 .cons ⟨136,133,by kernel_rfl,by kernel_rfl,by kernel_rfl,by kernel_rfl,rfl,by kernel_rfl⟩<|
 .cons ⟨157,154,by kernel_rfl,by kernel_rfl,by kernel_rfl,by kernel_rfl,rfl,by kernel_rfl⟩<|
 .cons ⟨190,175,by kernel_rfl,by kernel_rfl,by kernel_rfl,by kernel_rfl,rfl,by kernel_rfl⟩<|
 .cons ⟨211,208,by kernel_rfl,by kernel_rfl,by kernel_rfl,by kernel_rfl,rfl,by kernel_rfl⟩<|
 .cons ⟨384,362,by kernel_rfl,by kernel_rfl,by kernel_rfl,by kernel_rfl,rfl,by kernel_rfl⟩<|
 .cons ⟨829,627,by kernel_rfl,by kernel_rfl,by kernel_rfl,by kernel_rfl,rfl,by kernel_rfl⟩<|
 .cons ⟨1153,890,by kernel_rfl,by kernel_rfl,by kernel_rfl,by kernel_rfl,rfl,by kernel_rfl⟩<|
 .cons ⟨851,848,by kernel_rfl,by kernel_rfl,by kernel_rfl,by kernel_rfl,rfl,by kernel_rfl⟩<|
 .cons ⟨1264,1176,by kernel_rfl,by kernel_rfl,by kernel_rfl,by kernel_rfl,rfl,by kernel_rfl⟩ .nil
theorem Rv:d8 (K0 P) 115:=⟨by kernel_rfl,by kernel_rfl,by kernel_rfl,by kernel_rfl,by kernel_rfl,by kernel_rfl⟩
theorem Ry:d8 (K0 P) 136:=⟨by kernel_rfl,by kernel_rfl,by kernel_rfl,by kernel_rfl,by kernel_rfl,by kernel_rfl⟩
theorem Qk:d8 (K0 P) 157:=⟨by kernel_rfl,by kernel_rfl,by kernel_rfl,by kernel_rfl,by kernel_rfl,by kernel_rfl⟩
theorem HQ:d8 (K0 P) 190:=⟨by kernel_rfl,by kernel_rfl,by kernel_rfl,by kernel_rfl,by kernel_rfl,by kernel_rfl⟩
theorem RR:d8 (K0 P) 211:=⟨by kernel_rfl,by kernel_rfl,by kernel_rfl,by kernel_rfl,by kernel_rfl,by kernel_rfl⟩
theorem vG:d8 (K0 P) 384:=⟨by kernel_rfl,by kernel_rfl,by kernel_rfl,by kernel_rfl,by kernel_rfl,by kernel_rfl⟩
theorem GV:d8 (K0 P) 829:=⟨by kernel_rfl,by kernel_rfl,by kernel_rfl,by kernel_rfl,by kernel_rfl,by kernel_rfl⟩
theorem Ot:d8 (K0 P) 1153:=⟨by kernel_rfl,by kernel_rfl,by kernel_rfl,by kernel_rfl,by kernel_rfl,by kernel_rfl⟩
theorem Qt:d8 (K0 P) 851:=⟨by kernel_rfl,by kernel_rfl,by kernel_rfl,by kernel_rfl,by kernel_rfl,by kernel_rfl⟩
theorem Cg:d8 (K0 P) 1264:=⟨by kernel_rfl,by kernel_rfl,by kernel_rfl,by kernel_rfl,by kernel_rfl,by kernel_rfl⟩
noncomputable def Tb (P:Params) (C m f:Nat):Prop:= ∃s ca fm,aN[m]?=some s/\globV (K0 P) C=some (.ref ca)/\d8 (K0 P) ca/\findIn (K0 P) (.ref ca) (nm s)=some (some (.ref fm))/\typeIn (K0 P) (.ref fm)=some (.type "function")/\lI[f]?=some fm/\keepIn (K0 P) (.ref fm)=true
theorem LN:bX (λC l=>bX (Tb P C) l) zE:=
 .cons (.cons ⟨_,190,187,rfl,by kernel_rfl,HQ,by kernel_rfl,by kernel_rfl,rfl,by kernel_rfl⟩ .nil)<|
 .cons (.cons ⟨_,384,369,rfl,by kernel_rfl,vG,by kernel_rfl,by kernel_rfl,rfl,by kernel_rfl⟩<| .cons ⟨_,384,376,rfl,by kernel_rfl,vG,by kernel_rfl,by kernel_rfl,rfl,by kernel_rfl⟩<| .cons ⟨_,384,381,rfl,by kernel_rfl,vG,by kernel_rfl,by kernel_rfl,rfl,by kernel_rfl⟩ .nil)<|
 .cons (.cons ⟨_,829,634,rfl,by kernel_rfl,GV,by kernel_rfl,by kernel_rfl,rfl,by kernel_rfl⟩ .nil)<|
 .cons (.cons ⟨_,1264,1191,rfl,by kernel_rfl,Cg,by kernel_rfl,by kernel_rfl,rfl,by kernel_rfl⟩ .nil) .nil
theorem Es {G:Gl} (hK:G.K=K0 P) (hf:G.fa=λf a=>lI[f]?=some a):tC G:=by
 refine ⟨λx f h=> ?_,λx f h=> ?_,λC m f s h hs=> ?_⟩
 ·rw [hK,hf];exact Mc.at h
 ·obtain ⟨ca,fI,z⟩:=(Kv (P:=P)).at h
  exact ⟨ca,fI,by rw [hK];exact z.glob,by rw [hK];exact z.makes,by rw [hK];exact z.find,by rw [hK];exact z.typ,by rw [hf];exact z.fa,by rw [hK];exact z.keep⟩
 ·unfold xm at h
  cases hl:zE.lookup C with
  |none=>rw [hl] at h;exact nomatch h
  |some l=>
   rw [hl] at h
   obtain ⟨s',ca,fm,z1,z2,z3,z4,z5,z6,z7⟩:=((LN (P:=P)).at hl).at h
   cases hs.symm.trans z1
   exact ⟨ca,fm,by rw [hK];exact z2,by rw [hK];exact z3,by rw [hK];exact z4,by rw [hK];exact z5,by rw [hf];exact z6,by rw [hK];exact z7⟩
theorem rz {G:Gl} (hK:G.K=K0 P):nsIn G.K mainGlobals "range"=some none/\nsIn G.K mainGlobals "zip"=some none:=by rw [hK];exact ⟨by kernel_rfl,by kernel_rfl⟩
theorem Fi {G:Gl} (hK:G.K=K0 P) (x:Nat) (v:AV) (h:qg x=some v): ∃u,globV G.K x=some u/\VR G [] v u:=by
 rw [hK]
 exact bX.at (P:=λx v=> ∃u,globV (K0 P) x=some u/\VR G [] v u) (.cons ⟨.int 3 306,by kernel_rfl,_,rfl⟩<| .cons ⟨.int 60 643,by kernel_rfl,_,rfl⟩<| .cons ⟨.int 1 776,by kernel_rfl,_,rfl⟩ .nil:bX _ Cw) h
theorem FQ {G:Gl} (hK:G.K=K0 P) (x:Nat) (v:Value) (h:mi x=some v):globV G.K x=some v:=by
 rw [hK]
 exact bX.at (P:=λx v=>globV (K0 P) x=some v) (.cons (by kernel_rfl)<| .cons (by kernel_rfl)<| .cons (by kernel_rfl)<| .cons (by kernel_rfl)<| .cons (by kernel_rfl)<| .cons (by kernel_rfl)<| .cons (by kernel_rfl)<| .cons (by kernel_rfl)<| .cons (by kernel_rfl) .nil:bX _ GH) h
noncomputable def AE (K:Frag) (ca:Addr) (x:Nat):Bool:=match aN[x]? with
 |some s=>(findIn K (.ref ca) (nm s)).elim false (·.isNone)
 |none=>false
theorem Ht {K:Frag} {ca:Addr} {x:Nat} (h:AE K ca x=true): ∃s,aN[x]?=some s/\findIn K (.ref ca) (nm s)=some none:=by
 unfold AE at h
 cases hs:aN[x]? with
 |none=>rw [hs] at h;exact nomatch h
 |some s=>
  rw [hs] at h
  replace h:(findIn K (.ref ca) (nm s)).elim false (·.isNone)=true:=h
  cases hf:findIn K (.ref ca) (nm s) with
  |none=>rw [hf] at h;exact nomatch h
  |some o=>cases o with
   |none=>exact ⟨s,rfl,hf⟩
   |some _=>rw [hf] at h;exact nomatch h
theorem Mz:bX (λC l=> ∃ca,globV (K0 P) C=some (.ref ca)/\d8 (K0 P) ca/\l.all (AE (K0 P) ca)=true) zZ:=
 .cons ⟨115,by kernel_rfl,Rv,by kernel_rfl⟩<|
 .cons ⟨136,by kernel_rfl,Ry,by kernel_rfl⟩<|
 .cons ⟨157,by kernel_rfl,Qk,by kernel_rfl⟩<|
 .cons ⟨190,by kernel_rfl,HQ,by kernel_rfl⟩<|
 .cons ⟨211,by kernel_rfl,RR,by kernel_rfl⟩<|
 .cons ⟨384,by kernel_rfl,vG,by kernel_rfl⟩<|
 .cons ⟨829,by kernel_rfl,GV,by kernel_rfl⟩<|
 .cons ⟨1153,by kernel_rfl,Ot,by kernel_rfl⟩<|
 .cons ⟨851,by kernel_rfl,Qt,by kernel_rfl⟩<|
 .cons ⟨1264,by kernel_rfl,Cg,by kernel_rfl⟩ .nil
theorem Hp {G:Gl} (hK:G.K=K0 P) (C x:Nat) (h:fld C x=true): ∃ca s,globV G.K C=some (.ref ca)/\d8 G.K ca/\aN[x]?=some s/\findIn G.K (.ref ca) (nm s)=some none:=by
 unfold fld at h
 cases hl:zZ.lookup C with
 |none=>rw [hl] at h;exact nomatch h
 |some l=>
  rw [hl] at h
  rw [hK]
  obtain ⟨ca,z1,z2,z3⟩:=(Mz (P:=P)).at hl
  exact let ⟨s,z4,z5⟩:=Ht (List.all_eq_true.mp z3 x (List.contains_iff_mem.mp h));⟨ca,s,z1,z2,z4,z5⟩
theorem Gb {G:Gl} (hK:G.K=K0 P) (h:(K0 P).In G.h0) (x:Nat) (l:List AV) (e:jZ x=some l): ∃a vs,globV G.K x=some (.ref a)/\IsTup G.h0 a vs/\ae (VR G []) l vs.toList:=by
 rw [hK]
 exact bX.at (P:=λx l=> ∃a vs,globV (K0 P) x=some (.ref a)/\IsTup G.h0 a vs/\ae (VR G []) l vs.toList) (.cons ⟨336,_,by kernel_rfl,⟨Ag,h _ _ (by kernel_rfl),rfl,_,rfl⟩,(.cons ⟨_,_,rfl,rfl⟩ (.cons ⟨_,_,rfl,rfl⟩ (.cons ⟨_,_,rfl,rfl⟩ (.cons ⟨_,_,rfl,rfl⟩ (.cons ⟨_,_,rfl,rfl⟩ (.cons ⟨_,_,rfl,rfl⟩ (.cons ⟨_,_,rfl,rfl⟩ .nil)))))))⟩ .nil:bX _ vN) e
theorem EH (x:Nat) (l:List AV) (e:jZ x=some l): ∀y∈l,∃d,y= .str d:=
 bX.at (P:=λx l=> ∀y∈l,∃d,y= .str d) (.cons (List.forall_mem_cons.mpr ⟨⟨_,rfl⟩,List.forall_mem_cons.mpr ⟨⟨_,rfl⟩,List.forall_mem_cons.mpr ⟨⟨_,rfl⟩,List.forall_mem_cons.mpr ⟨⟨_,rfl⟩,List.forall_mem_cons.mpr ⟨⟨_,rfl⟩,List.forall_mem_cons.mpr ⟨⟨_,rfl⟩,List.forall_mem_cons.mpr ⟨⟨_,rfl⟩,λ_ z=>nomatch z⟩⟩⟩⟩⟩⟩⟩) .nil:bX _ vN) e
abbrev Be:Ctx:=⟨.builtin "claim.caller" {},none,none, [],none⟩
theorem uR:Dec Be.code=false:=by show my.contains "claim.caller"=false;decide+kernel
theorem GD {prog:Program} {w:World} {t:Sem Fin} {s:Shared} {R:Result->Shared->Prop} (hz:s.asleep)
  (h:ag (model prog w) callerA t (λfin s'=> ∃f,fin= .done f/\R (.ok f) s'/\leftWithCleanup s'.gens=false) s):
  ∃n r s' nP,runN (denote table) prog w n s ⟨t, .builtin "claim.caller" {},default, []⟩= .halted (outcomeOf r) s'/\
   schedN (denote table) prog w n (.single s ⟨t, .builtin "claim.caller" {},default, []⟩)= .halted (outcomeOf r) s'/\s'.forget=nP.forget/\R r nP:=by
 have h0:=h Be default caller_in uR (λx hx=>by cases hx)
 obtain ⟨n,r,s1,s2,a,b,c,d⟩:=wp_halts_full (M:=model prog w) (R:=R) (c:= .builtin "claim.caller" {}) (t:=t) (p:=default) hz
  (Sem.wp_mono (model prog w) Be t (λfin p' s' z=>by obtain ⟨f,rfl,z⟩:=z;exact z) (λ_ _ _ z=>z.elim) default s h0)
 exact ⟨n,r,s2,s1,b,a,c,d⟩
theorem Af {γ:Type} {r:Result} {free:Addr->Prop} {B K:Prop} {A C:Value->Prop} {D F F2:Addr->Obj->Prop} {A2:Addr->Obj->Prop} {B2:Obj->γ->Prop} {C2:γ->Prop} {D2:Addr->Prop}
  (h:(∃v,r= .ok (.ret v)/\B/\A v/\C v/\(∀b o,D b o->F b o)/\K)∨(∃e ob cls,r= .error (.ref e)/\A2 e ob/\B2 ob cls/\C2 cls/\D2 e/\ ∀b o,D b o->F2 b o)):
  (∃v,outcomeOf r= .done (.ret v)/\B/\A v/\C v/\(∀b o,D b o-> ¬free b->F b o)/\K)∨(∃e ob cls,outcomeOf r= .uncaught (.ref e)/\A2 e ob/\B2 ob cls/\C2 cls/\D2 e/\ ∀b o,D b o-> ¬free b->F2 b o):=by
 rcases h with ⟨v,rfl,d1,d2,d3,d4,d5⟩|⟨e,ob,cls,rfl,d1,d2,d3,d4,d5⟩
 ·exact .inl ⟨v,rfl,d1,d2,d3,λb o y _=>d4 b o y,d5⟩
 ·exact .inr ⟨e,ob,cls,rfl,d1,d2,d3,d4,λb o y _=>d5 b o y⟩
theorem zS {α β ρ σ ω:Type} {f:ρ->ω} {L W:α->β->Prop} {S:α->β->Nat->ω->σ->Prop} {T:α->β->ρ->σ->Prop} {U:α->β->ω->σ->Prop} (h: ∃a b,L a b/\W a b)
  (k: ∀a b,L a b->W a b-> ∃n r s,S a b n (f r) s/\T a b r s) (u: ∀a b r s,T a b r s->U a b (f r) s): ∃a b,L a b/\ ∃n o s,S a b n o s/\U a b o s:=by
 obtain ⟨a,b,l,x⟩:=h
 obtain ⟨n,r,s,x,t⟩:=k a b l x
 exact ⟨a,b,l,n,f r,s,x,u a b r s t⟩
theorem xd {c:ClaimW} {t:Sem Fin} {w:World} {s s₁:Shared} {args:List WData} {vs:List Value} {kept:Heap->Prop} {ord:List DictEntry->List DictEntry} (hz:s.asleep) (hl:layAllW c.records (classAt s.heap) w.params ord args s=some (vs,s₁))
  (hc:ag (model c.prog w) callerA t (λfin s'=> ∃f,fin= .done f/\(c.Ends s args vs s₁ (.ok f) s'/\s'.os=s.os/\kept s'.heap)/\AllBare s'.gens) s₁):
  ∃n r s',schedN (denote table) c.prog w n (.single s₁ ⟨t, .builtin "claim.caller" {},default, []⟩)= .halted (outcomeOf r) s'/\c.Ends s args vs s₁ r s'/\kept s'.heap/\s'.heap.life.seen=s.heap.life.seen/\s'.rest=s.rest:=by
 have rest:=layAllW_rest _ _ _ hl
 obtain ⟨k,r,s',nP,SN,SO,W5,hR⟩:=GD (prog:=c.prog) (w:=w) (t:=t) (s:=s₁) (R:=λr s'=>c.Ends s args vs s₁ r s'/\s'.os=s.os/\kept s'.heap) (Shared.asleep_of_life rest.2.2.2 hz)
  (ak hc λfin s' z=>let ⟨f,e,a,b⟩:=z;⟨f,e,a,leftWithCleanup_false_of_bare b⟩)
 have fe:=Shared.forget_eq W5
 exact ⟨k,r,s',SO,hR.1.congr fe.1,fe.1.symm▸hR.2.2,(congrArg _ ((runN_life _ _ _ SN).trans rest.2.2.2):s'.heap.life.seen=s.heap.life.seen),Shared.rest_eq (fe.2.2.2.1.trans hR.2.1)⟩
theorem IL {gs:Array GenState} (h:gs= #[]) {i:Nat} {x:GenState} (e:gs[i]?=some x):gs[i]?=some x/\False:=by
 rw [h] at e;simp at e
theorem IV {c:ClaimW} {tree:List Value->Sem Fin} {w:World} {s:Shared} {free:Addr->Prop} {gens:Prop} {kept:Heap->Prop} (hz:s.asleep) (hg:s.gens= #[])
  (spec: ∀args,c.pre args=true->WData.layableAll args=true-> ∀ord:List DictEntry->List DictEntry,(∀l,(ord l).Perm l)-> ∃vs s₁,layAllW c.records (classAt s.heap) w.params ord args s=some (vs,s₁)/\
   ag (model c.prog w) callerA (tree vs) (λfin s'=> ∃f,fin= .done f/\(c.Ends s args vs s₁ (.ok f) s'/\s'.os=s.os/\kept s'.heap)/\AllBare s'.gens) s₁):
  c.CallFrom (λvs=>⟨tree vs, .builtin "claim.caller" {},default, []⟩) w free gens kept s:=
 λargs oo sF ord oq=>zS (f:=outcomeOf) (spec args oo sF ord oq) (λvs s₁ hl hc=>xd hz hl hc)
  λvs s₁ r s' t=>⟨Af t.1,λ_ i x hx=>(IL hg hx).2.elim,t.2.1,t.2.2.1,t.2.2.2⟩
theorem Ed {R:WRecords} {x:WData} (h:WShape.has R x (.list .int)=true): ∃xs,x= .list xs/\WShape.hasItems R xs .int=true:=by
 cases x with
 |list xs=>exact ⟨xs,rfl,(Bool.or_false _).symm.trans (show (WShape.hasItems R xs .int||false)=true from h)⟩
 |_=>exact nomatch h
theorem yh {args:List WData} (h:dC.row.toRowW.claim.pre args=true): ∃ns:List Int,args= [.list (ns.map .int)]/\ns.length≤63:=by
 obtain ⟨h1,h2⟩:=pre_splitW h
 obtain ⟨d,r,rfl,h3,h4⟩:=hasAllW_cons h1
 obtain rfl:=hasAllW_nil h4
 obtain ⟨xs,rfl,h5⟩:=Ed h3
 obtain ⟨ns,rfl⟩:=PySem.W.items_int h5
 refine ⟨ns,rfl, ?_⟩
 have JZ:WTm.holds [] (.and (.not (.lt (.lit (.int 63)) (.len (.arg 0)))) (.lit (.bool true))) {args:= [.list (ns.map .int)]}=true:=h2
 refine Nat.not_lt.mp λhl=> ?_
 have q:(63:Int)<(ns.length:Int):=Int.ofNat_lt.mpr hl
 have e:less? (.int 63) (.int (ns.length:Int))=some (decide ((63:Int)<(ns.length:Int))):=rfl
 simp [WTm.holds,WTm.value,e,q] at JZ
theorem tP {R:WRecords} {cl:Str->Option Addr} {h:Heap} {vs:List Value} {d:WData} {ds:List WData} {as:List Addr} {Q:List Value->Prop} (r:ReadsAllW R cl h vs (d::ds) as)
  (k: ∀v w a b,ReadsW R cl h v d a->ReadsAllW R cl h w ds b->Q (v::w)):Q vs:=by
 cases r with
 |cons x y=>exact k _ _ _ _ x y
theorem x8 {R:WRecords} {cl:Str->Option Addr} {h:Heap} {vs:List Value} {as:List Addr} (r:ReadsAllW R cl h vs [] as):vs= []:=by
 cases r;rfl
theorem My {R:WRecords} {cl:Str->Option Addr} {h:Heap} {v:Value} {n:Int} {a:List Addr} (r:ReadsW R cl h v (.int n) a): ∃t,v= .int n t:=by
 cases r;exact ⟨_,rfl⟩
theorem vY {R:WRecords} {cl:Str->Option Addr} {h:Heap} {G:Gl} {ns:List Int}: ∀{vs:List Value} {as:List Addr},ReadsAllW R cl h vs (ns.map .int) as->ae (VR G []) (ns.map .int) vs:=by
 induction ns with
 |nil=>intro vs as r;exact (x8 r).symm▸ .nil
 |cons n ns ih=>intro vs as r;exact tP r λv w a b x y=> .cons (My x) (ih y)
theorem Aw (x:Nat) (s:String) (h:aN[x]?=some s):nm s≠"__name__":=by
 have all: ∀s∈aN,(nm s==("__name__":Str))=false:=by decide+kernel
 exact beq_eq_false_iff_ne.mp (all s (List.mem_of_getElem? h))
theorem EX (args ds:List WData):dC.row.toRowW.claim.post args (.bool true) ds=true:=by
 show (WShape.has [] (.bool true) .bool&&WTm.holds [] (.eq .res (.lit (.bool true))) {args:=args,res:=some (.bool true),after:=ds})=true
 have e:same (.bool true) (.bool true)=true:=by simp [same]
 simp [WShape.has,WShape.arms,WTm.holds,WTm.value,e]
theorem Ex (law: ∀bg:List Int,bg.length≤63->callI 60 18 [.bg] ⟨0,λ_=>none,bg⟩ λv _=>v= .bool true) {prog:Program} {w:World} {h:Heap} {sa:Addr} {ns:List Int} (hlen:ns.length≤63) (KH:(K0 w.params).In h) (hb: ∃o,h.get? sysModules=some o) (T: ∃mg,h.Ns mainGlobals mg) (B: ∃mb,h.Ns builtinsNs mb/\ ∀x:Str,x≠"__name__"->mb x=bootBuiltins x) (nl:h.NoLimit)
  {vs:Array Value} (hl:h.IsList sa vs) (hr: ∀G:Gl,ae (VR G []) (ns.map .int) vs.toList) {g:Array GenState} {d:Drawn} {tk:Nat} {os:OsState} {Q:Value->Shared->Prop} (q: ∀h' aH,(∀x o,h.get? x=some o->h'.get? x=some o)->Q (.bool true) ⟨h',g,d,aH,os⟩):
  ag (model prog w) callerA (PySem.call (.ref 1328) [.ref sa]) Q ⟨h,g,d,tk,os⟩:=by
 have nob: ∀{x:Addr},bJ ([]:Mu) x->False:=λh=>let ⟨b,hb,_⟩:=h;nomatch hb
 exact mw (G:=⟨prog,w,K0 w.params,h,sa,ns,λf a=>lI[f]?=some a⟩) (zF ⟨KH,Gb rfl KH,EH,hb,FQ rfl,⟨vs,hl,hr _⟩,Fi rfl,Hp rfl⟩ ⟨T,B,nl,Aw⟩ (Es rfl rfl) (rz rfl) (LJ rfl) 60)
  ⟨rfl,by decide+kernel,by decide+kernel⟩ (f:=18) rfl (as:= [.bg]) (vs:= [.ref sa]) (σ:=⟨0,λ_=>none,ns⟩) ⟨rfl,λh=>(nomatch (show (none:Option bu)=some _ from h)),λh=>(nob h).elim,λh=>(nob h).elim,λh=>(nomatch h),λh _=>(nomatch h),λ_ _ e=>e,rfl⟩ (.cons rfl .nil) (law ns hlen) g d tk os _
  λv V μ' h' aH σ' k rv S H'=>by
   cases k
   cases rv
   exact q h' aH λx o e=>S.keep x o (λz=>z) (λz=>nob z) e
abbrev nx:ClaimW:=dC.row.toRowW.claim
noncomputable def OG (vs:List Value):Sem Fin:=do match←nsGet mainNs dC.row.name with
   |some f=>do ret (←PySem.call f vs)
   |none=>unsupported "claim.caller:no-such-global"
theorem AS {R:WRecords} {cl:Str->Option Addr} {h:Heap} {vs:List Value} {ns:List Int} {as:List Addr} {Q:Prop} (Du:ReadsAllW R cl h vs [.list (ns.map .int)] as)
  (k: ∀sa xs,vs= [.ref sa]->h.IsList sa xs->(∀G:Gl,ae (VR G []) (ns.map .int) xs.toList)->Q):Q:=by
 refine tP (Q:=λvs=>(∀sa xs,vs= [.ref sa]->h.IsList sa xs->(∀G:Gl,ae (VR G []) (ns.map .int) xs.toList)->Q)->Q) Du (λv w a b x y k=> ?_) k
 cases x8 y
 cases x with
 |list a b c d=>exact k _ _ rfl ⟨_,a,b,_,c⟩ λG=>vY d
theorem Gq {w:World} {s:Shared} {mg mb:Str->Option Value} (G:Ground qv loose dC.row.toRowW.records (λ_ _=>True) w s mg mb s.heap) (hg:s.gens= #[]) {ns:List Int} (oo:nx.pre [.list (ns.map .int)]=true) (sF:WData.layableAll [.list (ns.map .int)]=true)
  {ord:List DictEntry->List DictEntry} (oq: ∀l,(ord l).Perm l) {Q:Prop} (k: ∀s₁ sa xs as,layAllW dC.row.toRowW.records (classAt s.heap) w.params ord [.list (ns.map .int)] s=some ([.ref sa],s₁)->
   Laid dC.row.toRowW.records w s s₁ [.list (ns.map .int)] [.ref sa] as->s₁.heap.IsList sa xs->(∀G:Gl,ae (VR G []) (ns.map .int) xs.toList)->Q):Q:=by
 obtain ⟨⟨vs,s₁⟩,jF⟩:=Option.isSome_iff_exists.mp (layAllW_isSome (P:=w.params) (ord:=ord) G.has [.list (ns.map .int)] dC.row.args s (pre_splitW oo).1)
 have Dl:=layAllW_rest _ _ _ jF
 obtain ⟨as,Du,JY,hold⟩:=reads_layAllW oq _ _ _ jF sF s₁.heap (λ_ _ e=>e)
 have L:Laid dC.row.toRowW.records w s s₁ [.list (ns.map .int)] vs as:=⟨⟨ord,oq,jF⟩,Du,JY,hold,layAllW_keeps _ _ _ jF,Dl.1.trans hg,Dl.2.2.1⟩
 exact AS Du λsa xs e a b=>k s₁ sa xs as (e▸jF) (e▸L) a b
theorem Dw (law: ∀bg:List Int,bg.length≤63->callI 60 18 [.bg] ⟨0,λ_=>none,bg⟩ λv _=>v= .bool true) (OD:nx.same=none) (J2:nx.within= []) (hi: ∀a b,nx.ident a b=true) {w:World} {s:Shared} {mb:Str->Option Value}
  (G:Ground qv loose dC.row.toRowW.records (λ_ _=>True) w s (s.heap.nsMap mainGlobals) mb s.heap) (y:s.heap=H1 w.params) (hg:s.gens= #[]) {kept:Shared->Prop} (hk: ∀h,kept h) (args:List WData) (oo:nx.pre args=true) (sF:WData.layableAll args=true)
  (ord:List DictEntry->List DictEntry) (oq: ∀l,(ord l).Perm l): ∃vs s₁,layAllW dC.row.toRowW.records (classAt s.heap) w.params ord args s=some (vs,s₁)/\
   ag (model nx.prog w) callerA (OG vs) (λfin s'=> ∃f,fin= .done f/\(nx.Ends s args vs s₁ (.ok f) s'/\s'.os=s.os/\kept s')/\AllBare s'.gens) s₁:=by
 obtain ⟨ns,rfl,hlen⟩:=yh oo
 refine Gq G hg oo sF oq λs₁ sa xs as jF L hl hr=>⟨_,s₁,jF, ?_⟩
 have G₁:=G.keeps (λ_ _ _ _ _=>trivial) L.keeps
 have kp: ∀x o,(H1 w.params).get? x=some o->s₁.heap.get? x=some o:=y▸L.keeps
 have KH:=(Ng w.params).keeps kp
 refine a8 (ao (wpAny_nsGet (s:=s₁) G₁.T.g ?_))
 rw [(mg_of KH G₁.T.g (by kernel_rfl):(s.heap.nsMap mainGlobals) dC.row.name=some (.ref 1328))]
 refine a8 (Ex law hlen KH ⟨_,kp _ _ (show (H1 w.params).get? sysModules=some (boot_o_1 w.params) by kernel_rfl)⟩ ⟨_,G₁.T.g⟩ ⟨_,G₁.T.b,G₁.T.builtins⟩ G₁.T.nolimit hl hr λh' aH up=>ah ⟨_,rfl, ?_⟩)
 have z:=GoodWG.laid (c:=nx) OD J2 hi L (s':=⟨h',s₁.gens,s₁.drawn,aH,s₁.os⟩) (r:= .ok (.ret (.bool true)))
  ⟨.inl ⟨_, .bool true, [],rfl,λ_=>rfl, .bool true,EX _ _,λ_=>⟨List.nodup_nil,λa ha=>by cases ha⟩⟩, .of_keep up,rfl, .of_eq L.gens⟩
 exact ⟨⟨z.1,z.2.1,hk _⟩,z.2.2⟩
theorem holds_of (law: ∀bg:List Int,bg.length≤63->callI 60 18 [.bg] ⟨0,λ_=>none,bg⟩ λv _=>v= .bool true):dC.Holds:=by
 refine PySem.W.holds_law Qo λsaid'=>⟨said',prom, ?_⟩
 have k:=Bool.and_eq_true_iff.mp Ti
 have a:=Bool.and_eq_true_iff.mp k.1
 have b:=Bool.and_eq_true_iff.mp k.2
 have f:=frees_parts b.1
 refine ⟨⟨bare,a.2,rfl⟩,prom.witness,λw=>⟨(left.behind (XP:=λ_ _=>True) (λ_ _=>trivial) a.1 w).1,λs' cv=> ?_⟩⟩
 obtain ⟨s₀,hf,uD,s,hT,hz,qc,hg,G0,y⟩:=(left.behind (XP:=λ_ _=>True) (λ_ _=>trivial) a.1 w).2 s' cv
 have RF:RecFacts dC.row.toRowW.records s.heap:=recFacts_nil rfl
 refine ⟨s₀,hf,uD,s,hT,λn hn=> ?_,RF.1,RF.2.1, ?_⟩
 ·obtain rfl:n=dC.row.name:=by split at hn<;>simp_all
  exact pinned_of_view hg G0 QB E5 Fu
 have qc:s.gens= #[]:=Array.eq_empty_of_size_eq_zero (beq_iff_eq.mp qc)
 refine IV (c:=nx) (tree:=OG) hz qc λargs h1 h2 ord ho=>Dw law f.1 (List.isEmpty_iff.mp b.2) (ident_freeW f.2.1 f.2.2.1 f.2.2.2.1) (RF.ground G0) y qc ?_ args h1 h2 ord ho
 exact λ_ q=>by cases q
end Mine.Internal.H
theorem PySem.Challenge.cw_pq0919_01_holds : PySem.Challenge.rw_pq0919_01.Holds :=
 Mine.Internal.H.holds_of Mine.Internal.C.Ul
