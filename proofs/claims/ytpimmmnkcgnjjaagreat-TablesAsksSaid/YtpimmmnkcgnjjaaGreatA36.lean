/- Parts of an interpreter and of a proof. No condition. -/
import Derived.Test.YtpimmmnkcgnjjaaGreatA15
import Derived.Test.YtpimmmnkcgnjjaaGreatA23
import Derived.Test.YtpimmmnkcgnjjaaGreatA13
import Derived.Test.YtpimmmnkcgnjjaaGreatA19
import Derived.Test.YtpimmmnkcgnjjaaGreatA07
set_option linter.all false
set_option maxHeartbeats 40000000
set_option maxRecDepth 10000
open Go.Proofs Go.Proofs.Tryz
namespace Go.Ai
variable {r:Wd}{rv:AV}
structure InQ (g:Gb) (n st inp out:Nat) (es:List Nat) (ev:AV) (ws:List (List Nat)) (wv:AV) (sb:List Nat) (sbv:AV) (eb:List (List Nat)) (ebv:AV):Prop where
 i:InG g n st inp out es ev ws wv
 bs:∀b∈sb,b<256
 be:∀w∈eb,∀b∈w,b<256
 s:Hz g n sb sbv
 e:Jz g n eb ebv
theorem InQ.mono{g g': Gb}{n n' st Q U:Nat}{es:List Nat}{ev:AV}{ws:List (List Nat)}{Z:AV}{sb:List Nat}{a0:AV}{eb:List (List Nat)}{a1:AV}(h:InQ g n st Q U es ev ws Z sb a0 eb a1)(A:n<=n')(D:∀a,a<n->g' a=g a):InQ g' n' st Q U es ev ws Z sb a0 eb a1:=
 ⟨h.i.mono A D,h.bs,h.be,X0 A D h.s,h.e.mono A D⟩
theorem D3.of{g:Gb}{n:Nat}{S E:Wq}{T:Tq}{sv ev h:AV}(A:Bb g n S sv)(D:Bb g n E ev)(Q:Dv g n T h):D3 g n S E T sv ev h:=⟨A,D,Q⟩
theorem e4t{st A D:Nat}(part:Bool){es:List Nat}{ev:AV}{ws:List (List Nat)}{wv:AV}(ia ib ic:Int){Z:List Nat}{eb:List (List Nat)}(full:Bool)(g:Gb)(n:Nat){a0 a1:AV}(h:InQ g n st A D es ev ws wv Z a0 eb a1):
  ∃(I:Nat)(O:Int)(M:Aw)(S E:Wq)(L:Lq),M=Bz st A D part es/\M.inp=I/\M.out=O/\S=qSx M Z/\E=qEx M eb/\L=qLx M ws full S E/\G0 I O S E (Aj I L)/\QOK M S E L/\WC 0 prog 16 [.agg [.lit (.int .u8 st),.lit (.int .u8 A),.lit (.int .u8 D),.lit (.bool part),ev,wv,.lit (.int .u8 ia),.lit (.int .u8 ib),.lit (.int .u8 ic),a0,a1,.lit (.bool full)]] ⟨.fn g,n⟩ λr=>∃sv e2 Q g' n',r=.ret (.agg [.li I,.li O,sv,e2,.li I,.li O,Q]) ⟨.fn g',n'⟩/\n<=n'/\(∀b,b<n->g' b=g b)/\D3 g' n' S E (Aj I L) sv e2 Q:=by
 have hM:=Un st A D part es;have a2:(Bz st A D part es).inp<=3:=by show 1+((A % 3:Nat):Int)<=3;omega
 have U:(Bz st A D part es).inp=((1+A % 3:Nat):Int):=by show 1+((A % 3:Nat):Int)=_;omega
 have a3:1+A % 3<=3:=by omega
 generalize 1+A % 3=I at *;have hq:=b5g hM a2 ws Z eb full;refine⟨I,_,_,_,_,_,rfl,U,rfl,rfl,rfl,rfl,hq.tab hM U rfl a3,hq,Xv (e2m (part:=part) ia ib ic h.bs h.be full g n h.i a0 a1 h.s h.e) ?_⟩;rintro _ ⟨sv,e2,Q,g',n',rfl,h1,h2,h3,h4,h5⟩;rw[U,e6i] at h5;refine⟨sv,e2,Q,g',n',?_,h1,h2,⟨h3,h4,h5⟩⟩;rw[U]
theorem RowK.rep{g:Gb}{lo n:Nat}{r:Option (Wd)}(h:RowK g lo n r rv):Al g n (r.getD []) rv:=by
 cases r with
 | none=>have A:rv=.nl:=h;rw[A];exact .inl ⟨rfl,rfl,.inl rfl⟩
 | some r=>exact h.1.rep
theorem Vz.rep{g:Gb}{lo n:Nat}{r:Option (Wd)}(h:Vz g lo n r rv):Al g n (r.getD []) rv:=by
 cases r with
 | none=>have A:rv=.nl:=h;rw[A];exact .inl ⟨rfl,rfl,.inl rfl⟩
 | some r=>exact h.1.rep
theorem RowK.cap{g:Gb}{lo n:Nat}{r:Option (Wd)}(h:RowK g lo n r rv){H:Mem}{ev:Ev}{o:Oper}{e:TypeId}:Nw prog H ev o (some (.slice e)) (some rv)=.val (.lit (.int .i64 (r.getD []).length)) H:=by
 cases r with
 | none=>have A:rv=.nl:=h;rw[A];exact a2x
 | some r =>
  rcases h.2 with⟨D,rfl⟩|⟨a,o,rfl⟩
  .rw[Option.getD_some,D];exact a2x
  .exact b1g
def P2(w:Wd):Prop:=∀i∈w,-1<=i/\i<16
def e4u(T:Tq)(E:Wq)(w:Wd):Wd:=(b5e T w E).getD []
theorem keyB_injR:∀{w v:Wd},P2 w->P2 v->F7 w=F7 v->w=v
 | [],[],_,_,_=>rfl
 | [],_::_,_,_,h=>by grind[F7]
 | _::_,[],_,_,h=>by grind[F7]
 | x::w,y::v,A,D,h=>by
  have Q:UInt8.ofNat (x+1).toNat::F7 w=UInt8.ofNat (y+1).toNat::F7 v:=h;injection Q with U Z;have hx:=A x (by simp);have hy:=D y (by simp);have h5:(UInt8.ofNat (x+1).toNat).toNat=(UInt8.ofNat (y+1).toNat).toNat:=by rw[U]
  rw[UInt8.toNat_ofNat',UInt8.toNat_ofNat',e8n (by omega),e8n (by omega)] at h5;have:x=y:=by omega
  rw[this,keyB_injR (λi hi=>A i (by simp[hi])) (λi hi=>D i (by simp[hi])) Z]
theorem e4v{w v:Wd}(A:P2 w)(D:P2 v)(h:Bg w=Bg v):w=v:=by
 grind[keyB_injR,Bg]
def K9(rows:Wq)(r:Wd):Option Nat:=rows.findIdx? λx=>decide (x=r)
theorem b7e{rows:Wq}{h:Wd}:K9 (rows++[h]) r=(K9 rows r).or (if h=r then some rows.length else none):=by
 grind[K9]
theorem e4w{rows:Wq}:K9 rows r=none↔r ∉ rows:=by
 unfold K9;grind
def dcR:Wq->Nat
 | []=>0
 | r::l=>dcR l+if r∈l then 0 else 1
def We(l:Wq):Nat:=dcR l.reverse
theorem b7f{l:Wq}:We (l++[r])=We l+if r∈l then 0 else 1:=by
 grind[We,dcR]
def StV(L:List (ByteArray×Int×Nat))(rows:Wq):Prop:=(∀r,P2 r->R8 (Bg r) L=(K9 rows r).map λk:Nat=>(k:Int))/\L.length=We rows
theorem StV.nil:StV [] []:=⟨λ_ _=>rfl,rfl⟩
theorem StV.old{L:List (ByteArray×Int×Nat)}{rows:Wq}(h:StV L rows)(D:r∈rows):StV L (rows++[r]):=by
 refine⟨λA Q=>?_,by rw[b7f,if_pos D];exact h.2⟩;rw[h.1 A Q,b7e]
 cases U:K9 rows A with
 | some k=>rfl
 | none =>
  rw[if_neg];rfl;rintro rfl;grind[e4w]
theorem StV.new{L:List (ByteArray×Int×Nat)}{rows:Wq}{c:Nat}(h:StV L rows)(Q:P2 r)(U:r ∉ rows):StV (L++[(Bg r,(rows.length:Int),c)]) (rows++[r]):=by
 refine⟨λA D=>?_,by rw[b7f,if_neg U,W0];simp[h.2]⟩;rw[b3j,h.1 A D,b7e]
 cases Z:K9 rows A with
 | some k=>rfl
 | none =>
  by_cases e:r=A
  .grind
  .rw[if_neg e,if_neg λe2=>e (e4v D Q e2).symm];rfl
def e4x(T:Tq)(w:Wd):Bool:=match Cj T 0 w with
 | some r=>decide (r.getLast?≠some (-1))
 | none=>false
def e5w(T:Tq)(E:Wq)(rows:Wq)(w:Wd):Bool:=e4x T w&&(K9 rows (e4u T E w)).isNone
theorem b7g{I:Nat}{O:Int}{S E:Wq}{T:Tq}(h:G0 I O S E T):(Am I S).length<=80:=by
 rw[Pu];have:=e5x h.sl h.i2;have:=h.sl;omega
end Go.Ai
